import PyProof.Rows.All
import Wide.All
import OpenK.AllK
import Wide.FinOn
import PySem.Challenge.RW_uf030004_10
set_option linter.all false
set_option Elab.async false
set_option genSizeOfSpec false
set_option maxHeartbeats 4000000
set_option maxRecDepth 100000
open PySem PySem.W PyProof.Rows
namespace Mine
theorem Mg {α : Type} {l : List α} {i : Nat} {a : α} (h : l[i]? = some a) : a ∈ l := List.mem_of_getElem? h
theorem Gs {α : Type} {l : List α} {i : Nat} {a : α} (h : l[i]? = some a) : ∃ h : i < l.length, l[i] = a := List.getElem?_eq_some_iff.mp h
theorem Oi {α : Type} {a b : α} (h : some a = some b) : a = b := Option.some.inj h
theorem Mi {α : Type} {l : List α} {a : α} (h : a ∈ l) : ∃ i : Nat, l[i]? = some a := List.mem_iff_getElem?.mp h
theorem Mn {α β : Type} {f : α -> β} {l : List α} {b : β} (h : ∃ a, a ∈ l /\ f a = b) : b ∈ l.map f := List.mem_map.mpr h
theorem Mm {α β : Type} {f : α -> β} {l : List α} {b : β} (h : b ∈ l.map f) : ∃ a, a ∈ l /\ f a = b := List.mem_map.mp h
theorem eA1 {p0 p1 : Prop} {G : Prop} (h : p0 /\ p1) (k : p0 -> p1 -> G) : G := by obtain ⟨hp0, hp1⟩ := h; exact k hp0 hp1
theorem eA11 {p0 p1 p2 p3 p4 p5 p6 p7 p8 p9 p10 p11 : Prop} {G : Prop} (h : p0 /\ p1 /\ p2 /\ p3 /\ p4 /\ p5 /\ p6 /\ p7 /\ p8 /\ p9 /\ p10 /\ p11) (k : p0 -> p1 -> p2 -> p3 -> p4 -> p5 -> p6 -> p7 -> p8 -> p9 -> p10 -> p11 -> G) : G := by obtain ⟨hp0, hp1, hp2, hp3, hp4, hp5, hp6, hp7, hp8, hp9, hp10, hp11⟩ := h; exact k hp0 hp1 hp2 hp3 hp4 hp5 hp6 hp7 hp8 hp9 hp10 hp11
theorem eA2 {p0 p1 p2 : Prop} {G : Prop} (h : p0 /\ p1 /\ p2) (k : p0 -> p1 -> p2 -> G) : G := by obtain ⟨hp0, hp1, hp2⟩ := h; exact k hp0 hp1 hp2
theorem eA3 {p0 p1 p2 p3 : Prop} {G : Prop} (h : p0 /\ p1 /\ p2 /\ p3) (k : p0 -> p1 -> p2 -> p3 -> G) : G := by obtain ⟨hp0, hp1, hp2, hp3⟩ := h; exact k hp0 hp1 hp2 hp3
theorem eA4 {p0 p1 p2 p3 p4 : Prop} {G : Prop} (h : p0 /\ p1 /\ p2 /\ p3 /\ p4) (k : p0 -> p1 -> p2 -> p3 -> p4 -> G) : G := by obtain ⟨hp0, hp1, hp2, hp3, hp4⟩ := h; exact k hp0 hp1 hp2 hp3 hp4
theorem eA5 {p0 p1 p2 p3 p4 p5 : Prop} {G : Prop} (h : p0 /\ p1 /\ p2 /\ p3 /\ p4 /\ p5) (k : p0 -> p1 -> p2 -> p3 -> p4 -> p5 -> G) : G := by obtain ⟨hp0, hp1, hp2, hp3, hp4, hp5⟩ := h; exact k hp0 hp1 hp2 hp3 hp4 hp5
theorem eA6 {p0 p1 p2 p3 p4 p5 p6 : Prop} {G : Prop} (h : p0 /\ p1 /\ p2 /\ p3 /\ p4 /\ p5 /\ p6) (k : p0 -> p1 -> p2 -> p3 -> p4 -> p5 -> p6 -> G) : G := by obtain ⟨hp0, hp1, hp2, hp3, hp4, hp5, hp6⟩ := h; exact k hp0 hp1 hp2 hp3 hp4 hp5 hp6
theorem eA7 {p0 p1 p2 p3 p4 p5 p6 p7 : Prop} {G : Prop} (h : p0 /\ p1 /\ p2 /\ p3 /\ p4 /\ p5 /\ p6 /\ p7) (k : p0 -> p1 -> p2 -> p3 -> p4 -> p5 -> p6 -> p7 -> G) : G := by obtain ⟨hp0, hp1, hp2, hp3, hp4, hp5, hp6, hp7⟩ := h; exact k hp0 hp1 hp2 hp3 hp4 hp5 hp6 hp7
theorem eA8 {p0 p1 p2 p3 p4 p5 p6 p7 p8 : Prop} {G : Prop} (h : p0 /\ p1 /\ p2 /\ p3 /\ p4 /\ p5 /\ p6 /\ p7 /\ p8) (k : p0 -> p1 -> p2 -> p3 -> p4 -> p5 -> p6 -> p7 -> p8 -> G) : G := by obtain ⟨hp0, hp1, hp2, hp3, hp4, hp5, hp6, hp7, hp8⟩ := h; exact k hp0 hp1 hp2 hp3 hp4 hp5 hp6 hp7 hp8
theorem eAEA {α0 : Type} {p0 : Prop} {p1 p2 : α0 -> Prop} {G : Prop} (h : p0 /\ ∃ a0, p1 a0 /\ p2 a0) (k : p0 -> ∀ a0, p1 a0 -> p2 a0 -> G) : G := by obtain ⟨hp0, a0, hp1, hp2⟩ := h; exact k hp0 a0 hp1 hp2
theorem eAEAA {α0 : Type} {p0 : Prop} {p1 p2 p3 : α0 -> Prop} {G : Prop} (h : p0 /\ ∃ a0, p1 a0 /\ p2 a0 /\ p3 a0) (k : p0 -> ∀ a0, p1 a0 -> p2 a0 -> p3 a0 -> G) : G := by obtain ⟨hp0, a0, hp1, hp2, hp3⟩ := h; exact k hp0 a0 hp1 hp2 hp3
theorem eAEEAAA {α0 α1 : Type} {p0 : Prop} {p1 p2 p3 p4 : α0 -> α1 -> Prop} {G : Prop} (h : p0 /\ ∃ a0, ∃ a1, p1 a0 a1 /\ p2 a0 a1 /\ p3 a0 a1 /\ p4 a0 a1) (k : p0 -> ∀ a0, ∀ a1, p1 a0 a1 -> p2 a0 a1 -> p3 a0 a1 -> p4 a0 a1 -> G) : G := by obtain ⟨hp0, a0, a1, hp1, hp2, hp3, hp4⟩ := h; exact k hp0 a0 a1 hp1 hp2 hp3 hp4
theorem eE1 {α0 : Type} {p0 : α0 -> Prop} {G : Prop} (h : ∃ a0, p0 a0) (k : ∀ a0, p0 a0 -> G) : G := by obtain ⟨a0, hp0⟩ := h; exact k a0 hp0
theorem eE13 {α0 α1 α2 α3 α4 α5 α6 α7 α8 α9 α10 α11 α12 : Type} {p0 : α0 -> α1 -> α2 -> α3 -> α4 -> α5 -> α6 -> α7 -> α8 -> α9 -> α10 -> α11 -> α12 -> Prop} {G : Prop} (h : ∃ a0, ∃ a1, ∃ a2, ∃ a3, ∃ a4, ∃ a5, ∃ a6, ∃ a7, ∃ a8, ∃ a9, ∃ a10, ∃ a11, ∃ a12, p0 a0 a1 a2 a3 a4 a5 a6 a7 a8 a9 a10 a11 a12) (k : ∀ a0, ∀ a1, ∀ a2, ∀ a3, ∀ a4, ∀ a5, ∀ a6, ∀ a7, ∀ a8, ∀ a9, ∀ a10, ∀ a11, ∀ a12, p0 a0 a1 a2 a3 a4 a5 a6 a7 a8 a9 a10 a11 a12 -> G) : G := by obtain ⟨a0, a1, a2, a3, a4, a5, a6, a7, a8, a9, a10, a11, a12, hp0⟩ := h; exact k a0 a1 a2 a3 a4 a5 a6 a7 a8 a9 a10 a11 a12 hp0
theorem eE17 {α0 α1 α2 α3 α4 α5 α6 α7 α8 α9 α10 α11 α12 α13 α14 α15 α16 : Type} {p0 : α0 -> α1 -> α2 -> α3 -> α4 -> α5 -> α6 -> α7 -> α8 -> α9 -> α10 -> α11 -> α12 -> α13 -> α14 -> α15 -> α16 -> Prop} {G : Prop} (h : ∃ a0, ∃ a1, ∃ a2, ∃ a3, ∃ a4, ∃ a5, ∃ a6, ∃ a7, ∃ a8, ∃ a9, ∃ a10, ∃ a11, ∃ a12, ∃ a13, ∃ a14, ∃ a15, ∃ a16, p0 a0 a1 a2 a3 a4 a5 a6 a7 a8 a9 a10 a11 a12 a13 a14 a15 a16) (k : ∀ a0, ∀ a1, ∀ a2, ∀ a3, ∀ a4, ∀ a5, ∀ a6, ∀ a7, ∀ a8, ∀ a9, ∀ a10, ∀ a11, ∀ a12, ∀ a13, ∀ a14, ∀ a15, ∀ a16, p0 a0 a1 a2 a3 a4 a5 a6 a7 a8 a9 a10 a11 a12 a13 a14 a15 a16 -> G) : G := by obtain ⟨a0, a1, a2, a3, a4, a5, a6, a7, a8, a9, a10, a11, a12, a13, a14, a15, a16, hp0⟩ := h; exact k a0 a1 a2 a3 a4 a5 a6 a7 a8 a9 a10 a11 a12 a13 a14 a15 a16 hp0
theorem eE2 {α0 α1 : Type} {p0 : α0 -> α1 -> Prop} {G : Prop} (h : ∃ a0, ∃ a1, p0 a0 a1) (k : ∀ a0, ∀ a1, p0 a0 a1 -> G) : G := by obtain ⟨a0, a1, hp0⟩ := h; exact k a0 a1 hp0
theorem eE3 {α0 α1 α2 : Type} {p0 : α0 -> α1 -> α2 -> Prop} {G : Prop} (h : ∃ a0, ∃ a1, ∃ a2, p0 a0 a1 a2) (k : ∀ a0, ∀ a1, ∀ a2, p0 a0 a1 a2 -> G) : G := by obtain ⟨a0, a1, a2, hp0⟩ := h; exact k a0 a1 a2 hp0
theorem eE4 {α0 α1 α2 α3 : Type} {p0 : α0 -> α1 -> α2 -> α3 -> Prop} {G : Prop} (h : ∃ a0, ∃ a1, ∃ a2, ∃ a3, p0 a0 a1 a2 a3) (k : ∀ a0, ∀ a1, ∀ a2, ∀ a3, p0 a0 a1 a2 a3 -> G) : G := by obtain ⟨a0, a1, a2, a3, hp0⟩ := h; exact k a0 a1 a2 a3 hp0
theorem eE5 {α0 α1 α2 α3 α4 : Type} {p0 : α0 -> α1 -> α2 -> α3 -> α4 -> Prop} {G : Prop} (h : ∃ a0, ∃ a1, ∃ a2, ∃ a3, ∃ a4, p0 a0 a1 a2 a3 a4) (k : ∀ a0, ∀ a1, ∀ a2, ∀ a3, ∀ a4, p0 a0 a1 a2 a3 a4 -> G) : G := by obtain ⟨a0, a1, a2, a3, a4, hp0⟩ := h; exact k a0 a1 a2 a3 a4 hp0
theorem eE6 {α0 α1 α2 α3 α4 α5 : Type} {p0 : α0 -> α1 -> α2 -> α3 -> α4 -> α5 -> Prop} {G : Prop} (h : ∃ a0, ∃ a1, ∃ a2, ∃ a3, ∃ a4, ∃ a5, p0 a0 a1 a2 a3 a4 a5) (k : ∀ a0, ∀ a1, ∀ a2, ∀ a3, ∀ a4, ∀ a5, p0 a0 a1 a2 a3 a4 a5 -> G) : G := by obtain ⟨a0, a1, a2, a3, a4, a5, hp0⟩ := h; exact k a0 a1 a2 a3 a4 a5 hp0
theorem eEA {α0 : Type} {p0 p1 : α0 -> Prop} {G : Prop} (h : ∃ a0, p0 a0 /\ p1 a0) (k : ∀ a0, p0 a0 -> p1 a0 -> G) : G := by obtain ⟨a0, hp0, hp1⟩ := h; exact k a0 hp0 hp1
theorem eEAA {α0 : Type} {p0 p1 p2 : α0 -> Prop} {G : Prop} (h : ∃ a0, p0 a0 /\ p1 a0 /\ p2 a0) (k : ∀ a0, p0 a0 -> p1 a0 -> p2 a0 -> G) : G := by obtain ⟨a0, hp0, hp1, hp2⟩ := h; exact k a0 hp0 hp1 hp2
theorem eEAAA {α0 : Type} {p0 p1 p2 p3 : α0 -> Prop} {G : Prop} (h : ∃ a0, p0 a0 /\ p1 a0 /\ p2 a0 /\ p3 a0) (k : ∀ a0, p0 a0 -> p1 a0 -> p2 a0 -> p3 a0 -> G) : G := by obtain ⟨a0, hp0, hp1, hp2, hp3⟩ := h; exact k a0 hp0 hp1 hp2 hp3
theorem eEAAAA {α0 : Type} {p0 p1 p2 p3 p4 : α0 -> Prop} {G : Prop} (h : ∃ a0, p0 a0 /\ p1 a0 /\ p2 a0 /\ p3 a0 /\ p4 a0) (k : ∀ a0, p0 a0 -> p1 a0 -> p2 a0 -> p3 a0 -> p4 a0 -> G) : G := by obtain ⟨a0, hp0, hp1, hp2, hp3, hp4⟩ := h; exact k a0 hp0 hp1 hp2 hp3 hp4
theorem eEAAAAA {α0 : Type} {p0 p1 p2 p3 p4 p5 : α0 -> Prop} {G : Prop} (h : ∃ a0, p0 a0 /\ p1 a0 /\ p2 a0 /\ p3 a0 /\ p4 a0 /\ p5 a0) (k : ∀ a0, p0 a0 -> p1 a0 -> p2 a0 -> p3 a0 -> p4 a0 -> p5 a0 -> G) : G := by obtain ⟨a0, hp0, hp1, hp2, hp3, hp4, hp5⟩ := h; exact k a0 hp0 hp1 hp2 hp3 hp4 hp5
theorem eEEA {α0 α1 : Type} {p0 p1 : α0 -> α1 -> Prop} {G : Prop} (h : ∃ a0, ∃ a1, p0 a0 a1 /\ p1 a0 a1) (k : ∀ a0, ∀ a1, p0 a0 a1 -> p1 a0 a1 -> G) : G := by obtain ⟨a0, a1, hp0, hp1⟩ := h; exact k a0 a1 hp0 hp1
theorem eEEAA {α0 α1 : Type} {p0 p1 p2 : α0 -> α1 -> Prop} {G : Prop} (h : ∃ a0, ∃ a1, p0 a0 a1 /\ p1 a0 a1 /\ p2 a0 a1) (k : ∀ a0, ∀ a1, p0 a0 a1 -> p1 a0 a1 -> p2 a0 a1 -> G) : G := by obtain ⟨a0, a1, hp0, hp1, hp2⟩ := h; exact k a0 a1 hp0 hp1 hp2
theorem eEEAAA {α0 α1 : Type} {p0 p1 p2 p3 : α0 -> α1 -> Prop} {G : Prop} (h : ∃ a0, ∃ a1, p0 a0 a1 /\ p1 a0 a1 /\ p2 a0 a1 /\ p3 a0 a1) (k : ∀ a0, ∀ a1, p0 a0 a1 -> p1 a0 a1 -> p2 a0 a1 -> p3 a0 a1 -> G) : G := by obtain ⟨a0, a1, hp0, hp1, hp2, hp3⟩ := h; exact k a0 a1 hp0 hp1 hp2 hp3
theorem eEEEAA {α0 α1 α2 : Type} {p0 p1 p2 : α0 -> α1 -> α2 -> Prop} {G : Prop} (h : ∃ a0, ∃ a1, ∃ a2, p0 a0 a1 a2 /\ p1 a0 a1 a2 /\ p2 a0 a1 a2) (k : ∀ a0, ∀ a1, ∀ a2, p0 a0 a1 a2 -> p1 a0 a1 a2 -> p2 a0 a1 a2 -> G) : G := by obtain ⟨a0, a1, a2, hp0, hp1, hp2⟩ := h; exact k a0 a1 a2 hp0 hp1 hp2
theorem eEEEAAA {α0 α1 α2 : Type} {p0 p1 p2 p3 : α0 -> α1 -> α2 -> Prop} {G : Prop} (h : ∃ a0, ∃ a1, ∃ a2, p0 a0 a1 a2 /\ p1 a0 a1 a2 /\ p2 a0 a1 a2 /\ p3 a0 a1 a2) (k : ∀ a0, ∀ a1, ∀ a2, p0 a0 a1 a2 -> p1 a0 a1 a2 -> p2 a0 a1 a2 -> p3 a0 a1 a2 -> G) : G := by obtain ⟨a0, a1, a2, hp0, hp1, hp2, hp3⟩ := h; exact k a0 a1 a2 hp0 hp1 hp2 hp3
theorem eEEEAAAAA {α0 α1 α2 : Type} {p0 p1 p2 p3 p4 p5 : α0 -> α1 -> α2 -> Prop} {G : Prop} (h : ∃ a0, ∃ a1, ∃ a2, p0 a0 a1 a2 /\ p1 a0 a1 a2 /\ p2 a0 a1 a2 /\ p3 a0 a1 a2 /\ p4 a0 a1 a2 /\ p5 a0 a1 a2) (k : ∀ a0, ∀ a1, ∀ a2, p0 a0 a1 a2 -> p1 a0 a1 a2 -> p2 a0 a1 a2 -> p3 a0 a1 a2 -> p4 a0 a1 a2 -> p5 a0 a1 a2 -> G) : G := by obtain ⟨a0, a1, a2, hp0, hp1, hp2, hp3, hp4, hp5⟩ := h; exact k a0 a1 a2 hp0 hp1 hp2 hp3 hp4 hp5
theorem eEEEEAAA {α0 α1 α2 α3 : Type} {p0 p1 p2 p3 : α0 -> α1 -> α2 -> α3 -> Prop} {G : Prop} (h : ∃ a0, ∃ a1, ∃ a2, ∃ a3, p0 a0 a1 a2 a3 /\ p1 a0 a1 a2 a3 /\ p2 a0 a1 a2 a3 /\ p3 a0 a1 a2 a3) (k : ∀ a0, ∀ a1, ∀ a2, ∀ a3, p0 a0 a1 a2 a3 -> p1 a0 a1 a2 a3 -> p2 a0 a1 a2 a3 -> p3 a0 a1 a2 a3 -> G) : G := by obtain ⟨a0, a1, a2, a3, hp0, hp1, hp2, hp3⟩ := h; exact k a0 a1 a2 a3 hp0 hp1 hp2 hp3
theorem eEEEEAAAA {α0 α1 α2 α3 : Type} {p0 p1 p2 p3 p4 : α0 -> α1 -> α2 -> α3 -> Prop} {G : Prop} (h : ∃ a0, ∃ a1, ∃ a2, ∃ a3, p0 a0 a1 a2 a3 /\ p1 a0 a1 a2 a3 /\ p2 a0 a1 a2 a3 /\ p3 a0 a1 a2 a3 /\ p4 a0 a1 a2 a3) (k : ∀ a0, ∀ a1, ∀ a2, ∀ a3, p0 a0 a1 a2 a3 -> p1 a0 a1 a2 a3 -> p2 a0 a1 a2 a3 -> p3 a0 a1 a2 a3 -> p4 a0 a1 a2 a3 -> G) : G := by obtain ⟨a0, a1, a2, a3, hp0, hp1, hp2, hp3, hp4⟩ := h; exact k a0 a1 a2 a3 hp0 hp1 hp2 hp3 hp4
theorem iA11 {p0 p1 p2 p3 p4 p5 p6 p7 p8 p9 p10 p11 : Prop} (hp0 : p0) (hp1 : p1) (hp2 : p2) (hp3 : p3) (hp4 : p4) (hp5 : p5) (hp6 : p6) (hp7 : p7) (hp8 : p8) (hp9 : p9) (hp10 : p10) (hp11 : p11) : p0 /\ p1 /\ p2 /\ p3 /\ p4 /\ p5 /\ p6 /\ p7 /\ p8 /\ p9 /\ p10 /\ p11 := ⟨hp0, hp1, hp2, hp3, hp4, hp5, hp6, hp7, hp8, hp9, hp10, hp11⟩
theorem iA12 {p0 p1 p2 p3 p4 p5 p6 p7 p8 p9 p10 p11 p12 : Prop} (hp0 : p0) (hp1 : p1) (hp2 : p2) (hp3 : p3) (hp4 : p4) (hp5 : p5) (hp6 : p6) (hp7 : p7) (hp8 : p8) (hp9 : p9) (hp10 : p10) (hp11 : p11) (hp12 : p12) : p0 /\ p1 /\ p2 /\ p3 /\ p4 /\ p5 /\ p6 /\ p7 /\ p8 /\ p9 /\ p10 /\ p11 /\ p12 := ⟨hp0, hp1, hp2, hp3, hp4, hp5, hp6, hp7, hp8, hp9, hp10, hp11, hp12⟩
theorem iA2 {p0 p1 p2 : Prop} (hp0 : p0) (hp1 : p1) (hp2 : p2) : p0 /\ p1 /\ p2 := ⟨hp0, hp1, hp2⟩
theorem iA3 {p0 p1 p2 p3 : Prop} (hp0 : p0) (hp1 : p1) (hp2 : p2) (hp3 : p3) : p0 /\ p1 /\ p2 /\ p3 := ⟨hp0, hp1, hp2, hp3⟩
theorem iA4 {p0 p1 p2 p3 p4 : Prop} (hp0 : p0) (hp1 : p1) (hp2 : p2) (hp3 : p3) (hp4 : p4) : p0 /\ p1 /\ p2 /\ p3 /\ p4 := ⟨hp0, hp1, hp2, hp3, hp4⟩
theorem iA5 {p0 p1 p2 p3 p4 p5 : Prop} (hp0 : p0) (hp1 : p1) (hp2 : p2) (hp3 : p3) (hp4 : p4) (hp5 : p5) : p0 /\ p1 /\ p2 /\ p3 /\ p4 /\ p5 := ⟨hp0, hp1, hp2, hp3, hp4, hp5⟩
theorem iA6 {p0 p1 p2 p3 p4 p5 p6 : Prop} (hp0 : p0) (hp1 : p1) (hp2 : p2) (hp3 : p3) (hp4 : p4) (hp5 : p5) (hp6 : p6) : p0 /\ p1 /\ p2 /\ p3 /\ p4 /\ p5 /\ p6 := ⟨hp0, hp1, hp2, hp3, hp4, hp5, hp6⟩
theorem iA7 {p0 p1 p2 p3 p4 p5 p6 p7 : Prop} (hp0 : p0) (hp1 : p1) (hp2 : p2) (hp3 : p3) (hp4 : p4) (hp5 : p5) (hp6 : p6) (hp7 : p7) : p0 /\ p1 /\ p2 /\ p3 /\ p4 /\ p5 /\ p6 /\ p7 := ⟨hp0, hp1, hp2, hp3, hp4, hp5, hp6, hp7⟩
theorem iA8 {p0 p1 p2 p3 p4 p5 p6 p7 p8 : Prop} (hp0 : p0) (hp1 : p1) (hp2 : p2) (hp3 : p3) (hp4 : p4) (hp5 : p5) (hp6 : p6) (hp7 : p7) (hp8 : p8) : p0 /\ p1 /\ p2 /\ p3 /\ p4 /\ p5 /\ p6 /\ p7 /\ p8 := ⟨hp0, hp1, hp2, hp3, hp4, hp5, hp6, hp7, hp8⟩
theorem iA9 {p0 p1 p2 p3 p4 p5 p6 p7 p8 p9 : Prop} (hp0 : p0) (hp1 : p1) (hp2 : p2) (hp3 : p3) (hp4 : p4) (hp5 : p5) (hp6 : p6) (hp7 : p7) (hp8 : p8) (hp9 : p9) : p0 /\ p1 /\ p2 /\ p3 /\ p4 /\ p5 /\ p6 /\ p7 /\ p8 /\ p9 := ⟨hp0, hp1, hp2, hp3, hp4, hp5, hp6, hp7, hp8, hp9⟩
theorem iAEA {α0 : Type} {p0 : Prop} {p1 p2 : α0 -> Prop} (hp0 : p0) (a0 : α0) (hp1 : p1 a0) (hp2 : p2 a0) : p0 /\ ∃ a0, p1 a0 /\ p2 a0 := ⟨hp0, a0, hp1, hp2⟩
theorem iAEEAAA {α0 α1 : Type} {p0 : Prop} {p1 p2 p3 p4 : α0 -> α1 -> Prop} (hp0 : p0) (a0 : α0) (a1 : α1) (hp1 : p1 a0 a1) (hp2 : p2 a0 a1) (hp3 : p3 a0 a1) (hp4 : p4 a0 a1) : p0 /\ ∃ a0, ∃ a1, p1 a0 a1 /\ p2 a0 a1 /\ p3 a0 a1 /\ p4 a0 a1 := ⟨hp0, a0, a1, hp1, hp2, hp3, hp4⟩
theorem iE2 {α0 α1 : Type} {p0 : α0 -> α1 -> Prop} (a0 : α0) (a1 : α1) (hp0 : p0 a0 a1) : ∃ a0, ∃ a1, p0 a0 a1 := ⟨a0, a1, hp0⟩
theorem iE3 {α0 α1 α2 : Type} {p0 : α0 -> α1 -> α2 -> Prop} (a0 : α0) (a1 : α1) (a2 : α2) (hp0 : p0 a0 a1 a2) : ∃ a0, ∃ a1, ∃ a2, p0 a0 a1 a2 := ⟨a0, a1, a2, hp0⟩
theorem iE4 {α0 α1 α2 α3 : Type} {p0 : α0 -> α1 -> α2 -> α3 -> Prop} (a0 : α0) (a1 : α1) (a2 : α2) (a3 : α3) (hp0 : p0 a0 a1 a2 a3) : ∃ a0, ∃ a1, ∃ a2, ∃ a3, p0 a0 a1 a2 a3 := ⟨a0, a1, a2, a3, hp0⟩
theorem iE5 {α0 α1 α2 α3 α4 : Type} {p0 : α0 -> α1 -> α2 -> α3 -> α4 -> Prop} (a0 : α0) (a1 : α1) (a2 : α2) (a3 : α3) (a4 : α4) (hp0 : p0 a0 a1 a2 a3 a4) : ∃ a0, ∃ a1, ∃ a2, ∃ a3, ∃ a4, p0 a0 a1 a2 a3 a4 := ⟨a0, a1, a2, a3, a4, hp0⟩
theorem iE6 {α0 α1 α2 α3 α4 α5 : Type} {p0 : α0 -> α1 -> α2 -> α3 -> α4 -> α5 -> Prop} (a0 : α0) (a1 : α1) (a2 : α2) (a3 : α3) (a4 : α4) (a5 : α5) (hp0 : p0 a0 a1 a2 a3 a4 a5) : ∃ a0, ∃ a1, ∃ a2, ∃ a3, ∃ a4, ∃ a5, p0 a0 a1 a2 a3 a4 a5 := ⟨a0, a1, a2, a3, a4, a5, hp0⟩
theorem iE7 {α0 α1 α2 α3 α4 α5 α6 : Type} {p0 : α0 -> α1 -> α2 -> α3 -> α4 -> α5 -> α6 -> Prop} (a0 : α0) (a1 : α1) (a2 : α2) (a3 : α3) (a4 : α4) (a5 : α5) (a6 : α6) (hp0 : p0 a0 a1 a2 a3 a4 a5 a6) : ∃ a0, ∃ a1, ∃ a2, ∃ a3, ∃ a4, ∃ a5, ∃ a6, p0 a0 a1 a2 a3 a4 a5 a6 := ⟨a0, a1, a2, a3, a4, a5, a6, hp0⟩
theorem iEA {α0 : Type} {p0 p1 : α0 -> Prop} (a0 : α0) (hp0 : p0 a0) (hp1 : p1 a0) : ∃ a0, p0 a0 /\ p1 a0 := ⟨a0, hp0, hp1⟩
theorem iEAA {α0 : Type} {p0 p1 p2 : α0 -> Prop} (a0 : α0) (hp0 : p0 a0) (hp1 : p1 a0) (hp2 : p2 a0) : ∃ a0, p0 a0 /\ p1 a0 /\ p2 a0 := ⟨a0, hp0, hp1, hp2⟩
theorem iEAAA {α0 : Type} {p0 p1 p2 p3 : α0 -> Prop} (a0 : α0) (hp0 : p0 a0) (hp1 : p1 a0) (hp2 : p2 a0) (hp3 : p3 a0) : ∃ a0, p0 a0 /\ p1 a0 /\ p2 a0 /\ p3 a0 := ⟨a0, hp0, hp1, hp2, hp3⟩
theorem iEAAAA {α0 : Type} {p0 p1 p2 p3 p4 : α0 -> Prop} (a0 : α0) (hp0 : p0 a0) (hp1 : p1 a0) (hp2 : p2 a0) (hp3 : p3 a0) (hp4 : p4 a0) : ∃ a0, p0 a0 /\ p1 a0 /\ p2 a0 /\ p3 a0 /\ p4 a0 := ⟨a0, hp0, hp1, hp2, hp3, hp4⟩
theorem iEEA {α0 α1 : Type} {p0 p1 : α0 -> α1 -> Prop} (a0 : α0) (a1 : α1) (hp0 : p0 a0 a1) (hp1 : p1 a0 a1) : ∃ a0, ∃ a1, p0 a0 a1 /\ p1 a0 a1 := ⟨a0, a1, hp0, hp1⟩
theorem iEEAA {α0 α1 : Type} {p0 p1 p2 : α0 -> α1 -> Prop} (a0 : α0) (a1 : α1) (hp0 : p0 a0 a1) (hp1 : p1 a0 a1) (hp2 : p2 a0 a1) : ∃ a0, ∃ a1, p0 a0 a1 /\ p1 a0 a1 /\ p2 a0 a1 := ⟨a0, a1, hp0, hp1, hp2⟩
theorem iEEAAA {α0 α1 : Type} {p0 p1 p2 p3 : α0 -> α1 -> Prop} (a0 : α0) (a1 : α1) (hp0 : p0 a0 a1) (hp1 : p1 a0 a1) (hp2 : p2 a0 a1) (hp3 : p3 a0 a1) : ∃ a0, ∃ a1, p0 a0 a1 /\ p1 a0 a1 /\ p2 a0 a1 /\ p3 a0 a1 := ⟨a0, a1, hp0, hp1, hp2, hp3⟩
theorem iEEEAA {α0 α1 α2 : Type} {p0 p1 p2 : α0 -> α1 -> α2 -> Prop} (a0 : α0) (a1 : α1) (a2 : α2) (hp0 : p0 a0 a1 a2) (hp1 : p1 a0 a1 a2) (hp2 : p2 a0 a1 a2) : ∃ a0, ∃ a1, ∃ a2, p0 a0 a1 a2 /\ p1 a0 a1 a2 /\ p2 a0 a1 a2 := ⟨a0, a1, a2, hp0, hp1, hp2⟩
theorem iEEEEAAA {α0 α1 α2 α3 : Type} {p0 p1 p2 p3 : α0 -> α1 -> α2 -> α3 -> Prop} (a0 : α0) (a1 : α1) (a2 : α2) (a3 : α3) (hp0 : p0 a0 a1 a2 a3) (hp1 : p1 a0 a1 a2 a3) (hp2 : p2 a0 a1 a2 a3) (hp3 : p3 a0 a1 a2 a3) : ∃ a0, ∃ a1, ∃ a2, ∃ a3, p0 a0 a1 a2 a3 /\ p1 a0 a1 a2 a3 /\ p2 a0 a1 a2 a3 /\ p3 a0 a1 a2 a3 := ⟨a0, a1, a2, a3, hp0, hp1, hp2, hp3⟩
theorem iEEEEAAAA {α0 α1 α2 α3 : Type} {p0 p1 p2 p3 p4 : α0 -> α1 -> α2 -> α3 -> Prop} (a0 : α0) (a1 : α1) (a2 : α2) (a3 : α3) (hp0 : p0 a0 a1 a2 a3) (hp1 : p1 a0 a1 a2 a3) (hp2 : p2 a0 a1 a2 a3) (hp3 : p3 a0 a1 a2 a3) (hp4 : p4 a0 a1 a2 a3) : ∃ a0, ∃ a1, ∃ a2, ∃ a3, p0 a0 a1 a2 a3 /\ p1 a0 a1 a2 a3 /\ p2 a0 a1 a2 a3 /\ p3 a0 a1 a2 a3 /\ p4 a0 a1 a2 a3 := ⟨a0, a1, a2, a3, hp0, hp1, hp2, hp3, hp4⟩
inductive MV where
 | none | bool (b : Bool) | int (i : Int) | str (x : Str) | ref (a : Nat) | con (v : Value)
def MV.Is : MV -> Value -> Prop
 | .none, v => v = .none
 | .bool b, v => v = .bool b
 | .int i, v => ∃ t, v = .int i t
 | .str x, v => ∃ t, v = .str x t
 | .ref a, v => v = .ref a
 | .con c, v => v = c
inductive All2 {α β : Type} (R : α -> β -> Prop) : List α -> List β -> Prop
 | nil : All2 R [] []
 | cons {a b l m} : R a b -> All2 R l m -> All2 R (a :: l) (b :: m)
theorem All2.length {α β : Type} {R : α -> β -> Prop} {l : List α} {m : List β} (h : All2 R l m) : l.length = m.length := by
 induction h with
 | nil => rfl
 | cons _ _ ih => simp [ih]
theorem All2.get {α β : Type} {R : α -> β -> Prop} {l : List α} {m : List β} (h : All2 R l m) : ∀ {i : Nat} {a : α}, l[i]? = some a -> ∃ b, m[i]? = some b /\ R a b := by
 induction h with
 | nil => intro i a e; simp at e
 | cons r _ ih =>
  intro i a e
  cases i with
  | zero => simp at e; subst e; exact (iEA _ (by simp) r)
  | succ i => simp at e; simpa using ih e
theorem All2.append {α β : Type} {R : α -> β -> Prop} {l l' : List α} {m m' : List β} (h : All2 R l m) (h' : All2 R l' m') : All2 R (l ++ l') (m ++ m') := by
 induction h with
 | nil => exact h'
 | cons r _ ih => exact .cons r ih
theorem All2.set {α β : Type} {R : α -> β -> Prop} {l : List α} {m : List β} (h : All2 R l m) {a : α} {b : β} (r : R a b) : ∀ (i : Nat), All2 R (l.set i a) (m.set i b) := by
 induction h with
 | nil => intro i; simp; exact .nil
 | cons r' h ih =>
  intro i
  cases i with
  | zero => exact .cons r h
  | succ i => exact .cons r' (ih i)
inductive MO where
 | list (xs : List MV) | tuple (xs : List MV) | sdict (es : List (Str × MV)) | idict (es : List (Int × MV)) (ep : Nat) | edict (es : List (Str × MV)) (ep : Nat) | inst (C : Nat) (fs : List (Str × MV)) | exc (C : Nat) | range (lo hi : Int) | klist (xs : List MV) (o : Obj)
def FieldsAre (P : Params) : List (Str × MV) -> List DictEntry -> Prop :=
 All2 fun p e => e.hash = PyData.keyHash P p.1 /\ (∃ t, e.key = .str p.1 t) /\ p.2.Is e.val
def KeyIs {κ : Type} [DecidableEq κ] {prog : Program} {w : World} (knd : KeyKind prog w κ) (o : Obj) (es : List (κ × MV)) : Prop :=
 ∃ kvs : List (κ × Value), o.IsDictOf knd kvs /\ All2 (fun (p : κ × MV) (q : κ × Value) => p.1 = q.1 /\ p.2.Is q.2) es kvs
def ObjAt (prog : Program) (w : World) (h : Heap) (a : Nat) : MO -> Prop
 | .list xs => ∃ its n, h.get? a = some (listOf its n) /\ All2 MV.Is xs its.toList
 | .tuple xs => ∃ its n, h.get? a = some ({ cls := .type "tuple", data := .seq its n } : Obj) /\ All2 MV.Is xs its.toList
 | .sdict es => (a == sysModules) = false /\ ∃ o, h.get? a = some o /\ KeyIs (strKind prog w) o es
 | .idict es ep => (a == sysModules) = false /\ ∃ o, h.get? a = some o /\ KeyIs (intKind prog w) o es /\ ∃ q, o.data = .dict q ep
 | .edict es ep => (a == sysModules) = false /\ ∃ o, h.get? a = some o /\ KeyIs (strKind prog w) o es /\ ∃ q, o.data = .dict q ep
 | .inst C fs => ∃ d es n, a = d + 1 /\ h.get? a = some (instObj C d) /\ h.get? d = some (dictOf es n) /\ FieldsAre w.params fs es
 | .exc C => ∃ o, h.get? a = some o /\ o.cls = .ref C /\ notCls o = true
 | .range lo hi => ∃ t u v, IsRange h a lo hi 1 t u v
 | .klist xs o => h.get? a = some o /\ o.cls = .type "list" /\ ∃ its n, o.data = .seq its n /\ All2 MV.Is xs its.toList
def MO.isK : MO -> Bool
 | .klist .. => true
 | _ => false
abbrev Hp := Nat -> Option (Nat × MO)
abbrev Lo := Str -> Option MV
def Hp.put (σ : Hp) (a : Nat) (t : Nat) (o : MO) : Hp := fun b => if b = a then some (t, o) else σ b
def Lo.put (ρ : Lo) (x : Str) (v : MV) : Lo := fun y => if y = x then some v else ρ y
def Foot (σ : Hp) (a : Nat) : Prop := (∃ t mo, σ a = some (t, mo) /\ mo.isK = false) ∨ ∃ t C fs, σ (a + 1) = some (t, .inst C fs)
set_option genInjectivity false in
structure Fm where
 A : Around
 env : Env
 top : Env
 outer : List Env
 slotted : List Nat
 base : Heap
abbrev Fm.L (f : Fm) : Nat := f.env.locals
abbrev Fm.cells (f : Fm) : List (Str × Nat) := f.env.cells
abbrev Fm.scope (f : Fm) : Scope := f.env.scope
def frameAddrs (l : List Env) : List Nat := l.filterMap (·.frame)
def OptIs : Option MV -> Option Value -> Prop
 | some m, some v => m.Is v
 | none, _ => True
 | some _, none => False
structure Rel (prog : Program) (w : World) (f : Fm) (ρ : Lo) (σ : Hp) (fr : Nat -> Option Obj) (z s : Shared) : Prop where
 same : s.gens = z.gens /\ s.drawn = z.drawn /\ s.os = z.os
 keep : ∀ a o, fr a = some o -> ∃ sl, s.heap.get? a = some { o with slots := sl } /\ (a ∉ f.slotted -> sl = o.slots)
 objs : ∀ a t mo, σ a = some (t, mo) -> ObjAt prog w s.heap a mo
 wf : ∀ a t C fs, σ (a + 1) = some (t, .inst C fs) -> σ a = none
 apart : ∀ a, Foot σ a -> fr a = none /\ a ≠ f.L /\ ∀ x c, (x, c) ∈ f.cells -> a ≠ c
 ns : ∃ m, s.heap.Ns f.L m /\ ∀ x, f.scope.names.lookup x = some .local -> OptIs (ρ x) (m x)
 cel : ∀ x c, (x, c) ∈ f.cells -> ∃ o v, s.heap.get? c = some o /\ o.data = .cell v /\ OptIs (ρ x) v
 frame : fr f.L = none /\ ∀ x c, (x, c) ∈ f.cells -> fr c = none /\ c ≠ f.L
 kl : ∀ a t xs o, σ a = some (t, .klist xs o) -> f.base.get? a = some o
def MO.isInst : MO -> Bool
 | .inst .. => true
 | _ => false
section
variable {prog : Program} {w : World} {h h' : Heap} {a : Nat} {mo : MO}
theorem ObjAt.there (x : ObjAt prog w h a mo) : ∃ o, h.get? a = some o := by
 cases mo with
 | list xs => refine eEEA x fun its n e _ => ?_; clear x; exact ⟨_, e⟩
 | tuple xs => refine eEEA x fun its n e _ => ?_; clear x; exact ⟨_, e⟩
 | sdict es => refine eAEA x fun _ o e _ => ?_; clear x; exact ⟨_, e⟩
 | idict es ep => refine eAEA x fun _ o e _ => ?_; clear x; exact ⟨_, e⟩
 | edict es ep => refine eAEA x fun _ o e _ => ?_; clear x; exact ⟨_, e⟩
 | inst C fs => refine eEEEAA x fun d es n _ e _ => ?_; clear x; exact ⟨_, e⟩
 | exc C => refine eEA x fun o e _ => ?_; clear x; exact ⟨_, e⟩
 | range lo hi => refine eE3 x fun t u v e => ?_; clear x; exact ⟨_, e⟩
 | klist xs o => exact ⟨_, x.1⟩
theorem ObjAt.dict_there {C : Nat} {fs : List (Str × MV)} (x : ObjAt prog w h (a + 1) (.inst C fs)) : ∃ o, h.get? a = some o := by
 refine eEEEAAA x fun d es n e1 _ e2 _ => ?_; clear x
 obtain rfl : a = d := Nat.succ.inj e1
 exact ⟨_, e2⟩
theorem ObjAt.of_same (x : ObjAt prog w h a mo) (k : ∀ o, h.get? a = some o -> h'.get? a = some o) (k' : ∀ d o, mo.isInst = true -> a = d + 1 -> h.get? d = some o -> h'.get? d = some o) : ObjAt prog w h' a mo := by
 cases mo with
 | list xs => refine eEEA x fun its n e r => ?_; clear x; exact (iEEA its n (k _ e) r)
 | tuple xs => refine eEEA x fun its n e r => ?_; clear x; exact (iEEA its n (k _ e) r)
 | sdict es => refine eAEA x fun l o e r => ?_; clear x; exact (iAEA l o (k _ e) r)
 | idict es ep => refine eAEA x fun l o e r => ?_; clear x; exact (iAEA l o (k _ e) r)
 | edict es ep => refine eAEA x fun l o e r => ?_; clear x; exact (iAEA l o (k _ e) r)
 | inst C fs => refine eEEEAAA x fun d es n e0 e e' r => ?_; clear x; exact (iE3 d es n (iA3 e0 (k _ e) (k' d _ rfl e0 e') r))
 | exc C => refine eEA x fun o e r => ?_; clear x; exact (iEA o (k _ e) r)
 | range lo hi => refine eE3 x fun t u v e => ?_; clear x; exact (iE3 t u v (k _ e))
 | klist xs o => exact ⟨k _ x.1, x.2⟩
theorem ObjAt.keeps (x : ObjAt prog w h a mo) (k : ∀ b o, h.get? b = some o -> h'.get? b = some o) : ObjAt prog w h' a mo :=
 x.of_same (fun o e => k a o e) fun d o _ _ e => k d o e
end
theorem Hp.put_self (σ : Hp) (a : Nat) (t : Nat) (o : MO) : (σ.put a t o) a = some (t, o) := by simp [Hp.put]
theorem Hp.put_ne (σ : Hp) {a b : Nat} (t : Nat) (o : MO) (h : b ≠ a) : (σ.put a t o) b = σ b := by simp [Hp.put, h]
def Kept (L : Nat) (D : Nat -> Prop) (h h' : Heap) : Prop := (∀ a o, ¬ D a -> a ≠ L -> h.get? a = some o -> h'.get? a = some o) /\ ∀ m, h.Ns L m -> h'.Ns L m
theorem Kept.of_grown {L : Nat} {h h' : Heap} (k : ∀ b o, h.get? b = some o -> h'.get? b = some o) {D : Nat -> Prop} : Kept L D h h' :=
 ⟨fun a o _ _ e => k a o e, fun m z9 => by obtain ⟨o, es, ep, e, r⟩ := z9; exact ⟨o, es, ep, k _ _ e, r⟩⟩
theorem Kept.of_same {L d : Nat} {h h' : Heap} (hs : Heap.SameBut d h h') (hd : d ≠ L) : Kept L (· = d) h h' :=
 ⟨fun a o n _ e => (hs.2 a n).trans e, fun m hn => hn.sameBut hs (Ne.symm hd)⟩
section
variable {prog : Program} {w : World} {f : Fm} {ρ : Lo} {σ : Hp} {fr : Nat -> Option Obj} {z s : Shared}
theorem Rel.some_lt (R : Rel prog w f ρ σ fr z s) {a : Nat} {p : Nat × MO} (e : σ a = some p) : a < s.heap.objs.size := by
 obtain ⟨t, mo⟩ := p; obtain ⟨o, ho⟩ := (R.objs a t mo e).there; exact Heap.lt_size ho
theorem Rel.foot_lt (R : Rel prog w f ρ σ fr z s) {a : Nat} (x : Foot σ a) : a < s.heap.objs.size := by
 rcases x with ⟨t, mo, e, _⟩ | ⟨t, C, fs, x⟩
 · exact R.some_lt e
 · obtain ⟨o, ho⟩ := (R.objs _ t _ x).dict_there; exact Heap.lt_size ho
theorem Rel.fr_lt (R : Rel prog w f ρ σ fr z s) {a : Nat} {o : Obj} (x : fr a = some o) : a < s.heap.objs.size := let ⟨_, e, _⟩ := R.keep a o x; Heap.lt_size e
theorem Rel.L_lt (R : Rel prog w f ρ σ fr z s) : f.L < s.heap.objs.size := by refine eEA R.ns fun m h _ => ?_; exact h.lt
theorem Rel.cel_lt (R : Rel prog w f ρ σ fr z s) {x : Str} {c : Nat} (h : (x, c) ∈ f.cells) : c < s.heap.objs.size := by refine eEEA (R.cel x c h) fun o v e _ => ?_; exact Heap.lt_size e
theorem Foot.of_some {σ : Hp} {a t : Nat} {mo : MO} (e : σ a = some (t, mo)) (h : mo.isK = false) : Foot σ a := .inl (iEEA t mo e h)
theorem Rel.neL (R : Rel prog w f ρ σ fr z s) {a t : Nat} {mo : MO} (e : σ a = some (t, mo)) : a ≠ f.L := by
 cases h : mo.isK with
 | false => exact (R.apart a (.of_some e h)).2.1
 | true =>
  cases mo <;> first | cases h | skip
  intro q
  refine eA2 (R.objs a t _ e) fun h1 _ y0' => eE2 y0' fun its n y1' => eA1 y1' fun h2 _ => ?_
  refine eEA R.ns fun m z1' _ => ?_; obtain ⟨o, es, ep, h3, h4, _⟩ := z1'
  rw [q, h3] at h1
  cases h1
  rw [h2] at h4; cases h4
theorem Rel.kept (R : Rel prog w f ρ σ fr z s) {h' : Heap} {tk : Nat} (k : Kept f.L (fun _ => False) s.heap h') : Rel prog w f ρ σ fr z { s with heap := h', toks := tk } where
 same := R.same
 keep := fun a o e => let ⟨sl, e1, e2⟩ := R.keep a o e; (iEA sl (k.1 a _ id (fun q => by have := R.frame.1; rw [<- q, e] at this; cases this) e1) e2)
 objs := fun a t mo e => (R.objs a t mo e).of_same (fun o e' => k.1 a o id (R.neL e) e') fun d o hi ed e' => k.1 d o id (by
  subst ed
  cases mo <;> first | cases hi | skip
  exact (R.apart d (.inr (iE3 _ _ _ e))).2.1) e'
 wf := R.wf
 apart := R.apart
 ns := by refine eEA R.ns fun m hn q => ?_; exact (iEA m (k.2 m hn) q)
 cel := fun x c hc => by refine eEEA (R.cel x c hc) fun o v e r => ?_; exact (iEEA o v (k.1 c _ id (R.frame.2 x c hc).2 e) r)
 frame := R.frame
 kl := R.kl
theorem Rel.grown (R : Rel prog w f ρ σ fr z s) {h' : Heap} {tk : Nat} (k : ∀ b o, s.heap.get? b = some o -> h'.get? b = some o) : Rel prog w f ρ σ fr z { s with heap := h', toks := tk } := R.kept (.of_grown k)
theorem Rel.toks (R : Rel prog w f ρ σ fr z s) (tk : Nat) : Rel prog w f ρ σ fr z { s with toks := tk } := R.grown (h' := s.heap) fun _ _ e => e
theorem Rel.alloc (R : Rel prog w f ρ σ fr z s) {h' : Heap} {tk : Nat} {b : Nat} {mo : MO} (t : Nat) (k : Kept f.L (fun _ => False) s.heap h') (hb : s.heap.objs.size <= b)
 (hi : mo.isInst = true -> s.heap.objs.size < b) (x : ObjAt prog w h' b mo) (hk : mo.isK = false := by rfl) : Rel prog w f ρ (σ.put b t mo) fr z { s with heap := h', toks := tk } where
 same := R.same
 keep := (R.kept (tk := tk) k).keep
 objs := fun a t' mo' e => by
  by_cases q : a = b
  · subst q; rw [Hp.put_self] at e; cases e; exact x
  · rw [Hp.put_ne _ _ _ q] at e; exact (R.kept (tk := tk) k).objs a t' mo' e
 wf := fun a t' C fs e => by
  by_cases q : a + 1 = b
  · rw [q, Hp.put_self] at e
    obtain ⟨rfl, rfl⟩ : t' = t /\ mo = .inst C fs := by cases e; exact ⟨rfl, rfl⟩
    have h5 := hi rfl
    rw [<- q] at h5
    rw [Hp.put_ne _ _ _ (fun q2 => Nat.succ_ne_self a (q.trans q2.symm))]
    cases e' : σ a with
    | none => rfl
    | some p => exact absurd (R.some_lt e') (Nat.not_lt.mpr (Nat.le_of_lt_succ h5))
  · rw [Hp.put_ne _ _ _ q] at e
    have : a < s.heap.objs.size := R.foot_lt (.inr (iE3 t' C fs e))
    rw [Hp.put_ne _ _ _ (Nat.ne_of_lt (Nat.lt_of_lt_of_le this hb))]
    exact R.wf a t' C fs e
 apart := fun a fa => by
  have new : s.heap.objs.size <= a -> fr a = none /\ a ≠ f.L /\ ∀ x c, (x, c) ∈ f.cells -> a ≠ c := fun ha => by
   refine (iA2 ?_ ?_ (fun y c hc => ?_))
   · cases e : fr a with
     | none => rfl
     | some o => exact absurd (R.fr_lt e) (Nat.not_lt.mpr ha)
   · exact (Nat.ne_of_lt (Nat.lt_of_lt_of_le R.L_lt ha)).symm
   · exact (Nat.ne_of_lt (Nat.lt_of_lt_of_le (R.cel_lt hc) ha)).symm
  by_cases q : a = b
  · exact new (q ▸ hb)
  · by_cases q' : a + 1 = b
    · by_cases ho : Foot σ a
      · exact R.apart a ho
      · refine new ?_
        rcases fa with ⟨t', mo', fa, fk⟩ | ⟨t', C, fs, e⟩
        · rw [Hp.put_ne _ _ _ q] at fa; exact absurd (.of_some fa fk) ho
        · rw [q', Hp.put_self] at e
          obtain ⟨rfl, rfl⟩ : t' = t /\ mo = .inst C fs := by cases e; exact ⟨rfl, rfl⟩
          have h5 := hi rfl
          rw [<- q'] at h5
          exact Nat.le_of_lt_succ h5
    · refine R.apart a ?_
      rcases fa with ⟨t', mo', fa, fk⟩ | ⟨t', C, fs, e⟩
      · rw [Hp.put_ne _ _ _ q] at fa; exact .of_some fa fk
      · rw [Hp.put_ne _ _ _ q'] at e; exact .inr (iE3 t' C fs e)
 ns := (R.kept (tk := tk) k).ns
 cel := (R.kept (tk := tk) k).cel
 frame := R.frame
 kl := fun a t' xs o e => by
  by_cases q : a = b
  · subst q; rw [Hp.put_self] at e; cases e; cases hk
  · rw [Hp.put_ne _ _ _ q] at e; exact R.kl a t' xs o e
theorem Rel.upd (R : Rel prog w f ρ σ fr z s) {h' : Heap} {tk : Nat} {d : Nat} {t t' : Nat} {mo mo' : MO} (hd : σ d = some (t, mo)) (hk : mo.isK = false) (hi' : mo'.isInst = false) (hs : Kept f.L (· = d) s.heap h')
 (x : ObjAt prog w h' d mo') (hk' : mo'.isK = false := by rfl) : Rel prog w f ρ (σ.put d t' mo') fr z { s with heap := h', toks := tk } where
 same := R.same
 keep := fun a o e => let ⟨sl, e1, e2⟩ := R.keep a o e; (iEA sl (hs.1 a _ (fun q => by have := (R.apart d (.of_some hd hk)).1; rw [<- q, e] at this; cases this) (fun q => by have := R.frame.1; rw [<- q, e] at this; cases this) e1) e2)
 objs := fun a t₁ mo₁ e => by
  by_cases q : a = d
  · subst q; rw [Hp.put_self] at e; cases e; exact x
  · rw [Hp.put_ne _ _ _ q] at e
    refine (R.objs a t₁ mo₁ e).of_same (fun o e' => hs.1 a _ q (R.neL e) e') fun b o hb e1 e2 => ?_
    subst e1
    cases mo₁ <;> first | cases hb | skip
    refine hs.1 b _ (fun q2 => ?_) (R.apart b (.inr (iE3 _ _ _ e))).2.1 e2
    subst q2
    have := R.wf _ _ _ _ e; rw [hd] at this; cases this
 wf := fun a t₁ C fs e => by
  by_cases q : a + 1 = d
  · rw [q, Hp.put_self] at e; cases e; cases hi'
  · rw [Hp.put_ne _ _ _ q] at e
    by_cases q' : a = d
    · subst q'; have := R.wf _ _ _ _ e; rw [hd] at this; cases this
    · rw [Hp.put_ne _ _ _ q']; exact R.wf a t₁ C fs e
 apart := fun a fa => by
  refine R.apart a ?_
  rcases fa with ⟨t₁, mo₁, fa, fk⟩ | ⟨t₁, C, fs, e⟩
  · by_cases q : a = d
    · subst q; exact .of_some hd hk
    · rw [Hp.put_ne _ _ _ q] at fa; exact .of_some fa fk
  · by_cases q : a + 1 = d
    · rw [q, Hp.put_self] at e; cases e; cases hi'
    · rw [Hp.put_ne _ _ _ q] at e; exact .inr (iE3 _ _ _ e)
 ns := by refine eEA R.ns fun m hn q => ?_; exact (iEA m (hs.2 m hn) q)
 cel := fun x c hc => by refine eEEA (R.cel x c hc) fun o v e r => ?_; exact (iEEA o v (hs.1 c _ (fun q => (R.apart d (.of_some hd hk)).2.2 x c hc q.symm) (R.frame.2 x c hc).2 e) r)
 frame := R.frame
 kl := fun a t₁ xs o e => by
  by_cases q : a = d
  · subst q; rw [Hp.put_self] at e; cases e; cases hk'
  · rw [Hp.put_ne _ _ _ q] at e; exact R.kl a t₁ xs o e
theorem Rel.updI (R : Rel prog w f ρ σ fr z s) {h' : Heap} {tk : Nat} {d C : Nat} {t t' : Nat} {fs fs' : List (Str × MV)} (hd : σ (d + 1) = some (t, .inst C fs)) (hs : Kept f.L (· = d) s.heap h')
 (x : ObjAt prog w h' (d + 1) (.inst C fs')) : Rel prog w f ρ (σ.put (d + 1) t' (.inst C fs')) fr z { s with heap := h', toks := tk } where
 same := R.same
 keep := fun a o e => let ⟨sl, e1, e2⟩ := R.keep a o e; (iEA sl (hs.1 a _ (fun q => by have := (R.apart d (.inr (iE3 _ _ _ hd))).1; rw [<- q, e] at this; cases this) (fun q => by have := R.frame.1; rw [<- q, e] at this; cases this) e1) e2)
 objs := fun a t₁ mo₁ e => by
  by_cases q : a = d + 1
  · subst q; rw [Hp.put_self] at e; cases e; exact x
  · rw [Hp.put_ne _ _ _ q] at e
    have hn := R.wf _ _ _ _ hd
    refine (R.objs a t₁ mo₁ e).of_same (fun o e' => hs.1 a _ (fun q2 => by subst q2; rw [hn] at e; cases e) (R.neL e) e') fun b o hb e1 e2 => ?_
    subst e1
    cases mo₁ <;> first | cases hb | skip
    exact hs.1 b _ (fun q2 => q (congrArg (· + 1) q2)) (R.apart b (.inr (iE3 _ _ _ e))).2.1 e2
 wf := fun a t₁ C' fs₁ e => by
  by_cases q : a = d + 1
  · subst q
    rw [Hp.put_ne _ _ _ (Nat.succ_ne_self _)] at e
    have := R.wf _ _ _ _ e; rw [hd] at this; cases this
  · rw [Hp.put_ne _ _ _ q]
    by_cases q' : a = d
    · subst q'; exact R.wf _ _ _ _ hd
    · rw [Hp.put_ne _ _ _ (fun q2 => q' (Nat.succ.inj q2))] at e; exact R.wf _ _ _ _ e
 apart := fun a fa => by
  refine R.apart a ?_
  rcases fa with ⟨t₁, mo₁, fa, fk⟩ | ⟨t₁, C, fs, e⟩
  · by_cases q : a = d + 1
    · subst q; exact .of_some hd rfl
    · rw [Hp.put_ne _ _ _ q] at fa; exact .of_some fa fk
  · by_cases q : a = d
    · subst q; exact .inr (iE3 _ _ _ hd)
    · rw [Hp.put_ne _ _ _ (fun q2 => q (Nat.succ.inj q2))] at e; exact .inr (iE3 _ _ _ e)
 ns := by refine eEA R.ns fun m hn q => ?_; exact (iEA m (hs.2 m hn) q)
 cel := fun x c hc => by refine eEEA (R.cel x c hc) fun o v e r => ?_; exact (iEEA o v (hs.1 c _ (fun q => (R.apart d (.inr (iE3 _ _ _ hd))).2.2 x c hc q.symm) (R.frame.2 x c hc).2 e) r)
 frame := R.frame
 kl := fun a t₁ xs o e => by
  by_cases q : a = d + 1
  · subst q; rw [Hp.put_self] at e; cases e
  · rw [Hp.put_ne _ _ _ q] at e; exact R.kl a t₁ xs o e
end
end Mine
open PySem PySem.W PyProof.Rows
namespace Mine
set_option genInjectivity false in
structure Cx where
 prog : Program
 w : World
 K : Frag
 p : Program
 loose : List Str
 mean : ExcName -> Option Value
 mg : Str -> Option Value
 mb : Str -> Option Value
 glob : Str -> Option MV
 meth : Nat -> Str -> Option Nat
 fld : Nat -> Str -> Bool
 init : Nat -> Option Nat
 fns : Nat -> Bool
def GlobAt (c : Cx) (x : Str) (v : MV) : Prop :=
 (x == ("__debug__" : Str)) = false /\ ((∃ u, nsIn c.K mainGlobals x = some (some u) /\ v.Is u) ∨ (nsIn c.K mainGlobals x = some none /\ x ≠ "__name__" /\ ∃ u, bootBuiltins x = some u /\ v.Is u))
structure CxOk (c : Cx) : Prop where
 glob : ∀ x v, c.glob x = some v -> GlobAt c x v
 meth : ∀ C x a, c.meth C x = some a -> plainGet c.K C x = true /\ findIn c.K (.ref C) x = some (some (.ref a)) /\ isFn c.K (.ref a) = true /\ keepIn c.K (.ref a) = true
 fld : ∀ C x, c.fld C x = true -> plainGet c.K C x = true /\ hasDictIn c.K C = true /\ findIn c.K (.ref C) x = some none /\ findIn c.K (.ref C) "__setattr__" = some (some (.builtin "object.__setattr__")) /\ plainOver c.K C = true /\ takerIn c.K C x = some none
 init : ∀ C a, c.init C = some a -> makesIn c.K C = true /\ findIn c.K (.ref C) "__init__" = some (some (.ref a)) /\ isFn c.K (.ref a) = true /\ keepIn c.K (.ref C) = true
 fns : ∀ a, c.fns a = true -> keepIn c.K (.ref a) = true
structure Good (c : Cx) (n : Nat) (f : Fm) (fr : Nat -> Option Obj) : Prop where
 ok : CxOk c
 base : ∀ a o, f.base.get? a = some o -> fr a = some o
 apart : ∀ a ∈ f.slotted, f.base.get? a = none
 K : c.K.In f.base
 top : Top c.p c.loose c.mean c.mg c.mb f.base
 kind : f.env.scope.kind = .function
 globals : f.env.globals = mainGlobals
 celled : ∀ x, f.env.scope.names.lookup x = some .cell -> (f.env.cells.lookup x).isSome = true
 cellk : ∀ x k, (x, k) ∈ f.env.cells -> f.env.scope.names.lookup x ≠ some .local
 cellnd : (f.env.cells.map (·.2)).Nodup /\ (f.env.cells.map (·.1)).Nodup /\ ∀ x k, (x, k) ∈ f.env.cells -> k ≠ f.env.locals
 builtins : f.env.builtins = builtinsNs
 room : f.A.depth + 2 * n < recursionLimit
 units : f.A.units + 40 * n < cLine
 frames : f.A.frames = some (f.top :: f.outer)
 topk : f.top.scope.kind = .function /\ f.top.globals = mainGlobals /\ f.top.builtins = builtinsNs /\ f.top.scope.isGenerator = false /\ f.top.scope.isCoroutine = false
 low : sysModules < f.base.objs.size
 slots : ∀ a ∈ frameAddrs (f.top :: f.outer), a = f.env.locals ∨ a ∈ f.slotted
 topL : ∃ L, f.top.frame = some L /\ (L = f.env.locals ∨ (L ∈ f.slotted /\ ∃ o, fr L = some o /\ ∀ vs, o.data ≠ .fields vs)) /\ f.base.get? L = none
 slotIn : ∀ a ∈ f.slotted, ∃ o, fr a = some o
 home : f.env.frame = f.top.frame
 outer : ∀ env ∈ f.outer, env.scope.kind ≠ .module /\ ∃ L o, env.frame = some L /\ L ∈ f.slotted /\ fr L = some o /\ ∀ vs, o.data ≠ .fields vs
abbrev Cx.M (c : Cx) : Model := model c.prog c.w
abbrev Cx.Rel (c : Cx) := Mine.Rel c.prog c.w
theorem Good.keep {c : Cx} {n : Nat} {f : Fm} {fr : Nat -> Option Obj} (G : Good c n f fr) {ρ : Lo} {σ : Hp} {z s : Shared} (R : c.Rel f ρ σ fr z s) : ∀ a o, f.base.get? a = some o -> s.heap.get? a = some o := fun a o e => by
 refine eEA (R.keep a o (G.base a o e)) fun sl h1 h2 => ?_
 have h3 := h2 fun hm => by rw [G.apart a hm] at e; cases e
 rw [h1, h3]
theorem Good.inK {c : Cx} {n : Nat} {f : Fm} {fr : Nat -> Option Obj} (G : Good c n f fr) {ρ : Lo} {σ : Hp} {z s : Shared} (R : c.Rel f ρ σ fr z s) : c.K.In s.heap := G.K.keeps (G.keep R)
theorem Good.at {c : Cx} {n : Nat} {f : Fm} {fr : Nat -> Option Obj} (G : Good c n f fr) {ρ : Lo} {σ : Hp} {z s : Shared} (R : c.Rel f ρ σ fr z s) : Top c.p c.loose c.mean c.mg c.mb s.heap := G.top.keeps (G.keep R)
def Bare (h : Heap) (e : Nat) : Prop := ∃ oe vs, h.get? e = some oe /\ oe.data = .fields vs /\ vs[2]? = some .none
def XRel (c : Cx) (new : Bool) (f : Fm) (ρ : Lo) (σ : Hp) (fr : Nat -> Option Obj) (z s : Shared) (C e : Nat) : Prop :=
 match new with
 | true => ∃ h vs, c.Rel f ρ σ fr z { s with heap := h } /\ Heap.MadeExcOf h s.heap e (.ref C) vs
 | false => ∃ h t vs, c.Rel f ρ σ fr z { s with heap := h } /\ Heap.FlyingW (hideAll h (frameAddrs (f.top :: f.outer))) (f.top :: f.outer) e (.ref C) (.ref t) s.heap /\
  (hideAll h (frameAddrs (f.top :: f.outer))).get? t = none /\ s.heap.TupAt t vs /\ h.UpToSlots s.heap /\ Bare s.heap e
abbrev EX := Bool -> Nat -> Nat -> Hp -> Prop
abbrev SX := Bool -> Nat -> Nat -> Lo -> Hp -> Prop
def noX : EX := fun _ _ _ _ => False
def noSX : SX := fun _ _ _ _ _ => False
def XPost (c : Cx) (f : Fm) (fr : Nat -> Option Obj) (z : Shared) (X : SX) : Value -> Shared -> Prop :=
 fun ev s' => ∃ b C e ρ' σ', ev = .ref e /\ XRel c b f ρ' σ' fr z s' C e /\ X b C e ρ' σ'
def EX.at (X : EX) (ρ : Lo) : SX := fun b C e ρ' σ' => ρ' = ρ /\ X b C e σ'
set_option genInjectivity false in
structure Ix where
 n : Nat
 hn : Bool
 sc : Scope
def W {α μ : Type} (c : Cx) (i : Ix) (V : μ -> α -> Prop) (t : Env -> Sem α) (ρ : Lo) (Q : μ -> Hp -> Prop) (X : EX) (σ : Hp) : Prop :=
 ∀ f fr z s, f.env.scope = i.sc -> (i.hn = true -> f.A.handled = none) -> Good c i.n f fr -> c.Rel f ρ σ fr z s ->
  wpAny c.M f.A (t f.env) (fun a s' => ∃ m σ', V m a /\ c.Rel f ρ σ' fr z s' /\ Q m σ') (XPost c f fr z (X.at ρ)) s
inductive MF where
 | next | brk | cont | ret (v : MV)
def MF.Is : MF -> Flow -> Prop
 | .next, f => f = .next
 | .brk, f => f = .brk
 | .cont, f => f = .cont
 | .ret v, f => ∃ u, f = .ret u /\ v.Is u
def S (c : Cx) (i : Ix) (t : Env -> Sem Flow) (ρ : Lo) (Q : MF -> Lo -> Hp -> Prop) (X : SX) (σ : Hp) : Prop :=
 ∀ f fr z s, f.env.scope = i.sc -> (i.hn = true -> f.A.handled = none) -> Good c i.n f fr -> c.Rel f ρ σ fr z s ->
  wpAny c.M f.A (t f.env) (fun fl s' => ∃ m ρ' σ', MF.Is m fl /\ c.Rel f ρ' σ' fr z s' /\ Q m ρ' σ') (XPost c f fr z X) s
def WE (c : Cx) (i : Ix) (e : Expr) := W c i MV.Is (eval e)
def WT (c : Cx) (i : Ix) (e : Expr) (ρ : Lo) (Q : Bool -> Hp -> Prop) := W c i (· = ·) (fun env => isTrue e env (eval e env)) ρ Q
def WS (c : Cx) (i : Ix) (st : Stmt) := S c i (exec st)
def WSs (c : Cx) (i : Ix) (b : List Stmt) := S c i (execs b)
def WTr (c : Cx) (i : Ix) (m : MV) (ρ : Lo) (Q : Bool -> Hp -> Prop) (X : EX) (σ : Hp) := ∀ v, m.Is v -> W c i (· = ·) (fun _ => truthy v) ρ Q X σ
def WB (c : Cx) (i : Ix) (op : Operator) (a b : MV) (ρ : Lo) (Q : MV -> Hp -> Prop) (X : EX) (σ : Hp) := ∀ v u, a.Is v -> b.Is u -> W c i MV.Is (fun _ => binaryOp op v u) ρ Q X σ
def WI (c : Cx) (i : Ix) (op : Operator) (a b : MV) (ρ : Lo) (Q : MV -> Hp -> Prop) (X : EX) (σ : Hp) := ∀ v u, a.Is v -> b.Is u -> W c i MV.Is (fun _ => inplaceOp op v u) ρ Q X σ
def WC (c : Cx) (i : Ix) (op : CmpOp) (a b : MV) (ρ : Lo) (Q : MV -> Hp -> Prop) (X : EX) (σ : Hp) := ∀ v u, a.Is v -> b.Is u -> W c i MV.Is (fun _ => compareOp op v u) ρ Q X σ
def WU (c : Cx) (i : Ix) (op : UnaryOp) (a : MV) (ρ : Lo) (Q : MV -> Hp -> Prop) (X : EX) (σ : Hp) := ∀ v, a.Is v -> W c i MV.Is (fun _ => unaryOp op v) ρ Q X σ
def WGet (c : Cx) (i : Ix) (a : MV) (name : Str) (ρ : Lo) (Q : MV -> Hp -> Prop) (X : EX) (σ : Hp) := ∀ v, a.Is v -> W c i MV.Is (fun _ => getAttr v name true) ρ Q X σ
def WSet (c : Cx) (i : Ix) (a : MV) (name : Str) (b : MV) (ρ : Lo) (Q : Unit -> Hp -> Prop) (X : EX) (σ : Hp) := ∀ v u, a.Is v -> b.Is u -> W c i (· = ·) (fun _ => setAttr v name u) ρ Q X σ
def WSub (c : Cx) (i : Ix) (value slice : Expr) (a b : MV) (ρ : Lo) (Q : MV -> Hp -> Prop) (X : EX) (σ : Hp) := ∀ v u, a.Is v -> b.Is u -> W c i MV.Is (fun _ => subscriptTail value slice v u) ρ Q X σ
def WPut (c : Cx) (i : Ix) (a k b : MV) (ρ : Lo) (Q : Unit -> Hp -> Prop) (X : EX) (σ : Hp) := ∀ v y u, a.Is v -> k.Is y -> b.Is u -> W c i (· = ·) (fun _ => setItem v y u) ρ Q X σ
def WCall (c : Cx) (i : Ix) (fn : MV) (as : List MV) (ρ : Lo) (Q : MV -> Hp -> Prop) (X : EX) (σ : Hp) := ∀ v us, fn.Is v -> All2 MV.Is as us -> W c i MV.Is (fun _ => call v us) ρ Q X σ
def WEs (c : Cx) (i : Ix) (pos : Pos) (es : List Expr) := W c i (All2 MV.Is) (fun env => spliced (backTo pos (starEach es env)))
theorem wuse {α μ τ : Type} {M : Model} {A : Around} {t : Sem α} {V : μ -> α -> Prop} {Rl : τ -> Shared -> Prop} {Q : μ -> τ -> Prop} {E E' : Value -> Shared -> Prop} {Q' : α -> Shared -> Prop} {s : Shared}
 (h : wpAny M A t (fun a s' => ∃ m σ', V m a /\ Rl σ' s' /\ Q m σ') E s) (k : ∀ a s' m σ', V m a -> Rl σ' s' -> Q m σ' -> Q' a s') (e : ∀ v s', E v s' -> E' v s') : wpAny M A t Q' E' s :=
 wpAny_mono h (fun a s' x => x.elim fun m x => x.elim fun σ' x => k a s' m σ' x.1 x.2.1 x.2.2) e
theorem wuse4 {α τ υ : Type} {M : Model} {A : Around} {t : Sem α} {Rl : τ -> υ -> Shared -> Prop} {Q : τ -> υ -> Prop} {E E' : Value -> Shared -> Prop} {Q' : α -> Shared -> Prop} {s : Shared}
 (h : wpAny M A t (fun _ s' => ∃ ρ' σ', Rl ρ' σ' s' /\ Q ρ' σ') E s) (k : ∀ a s' ρ' σ', Rl ρ' σ' s' -> Q ρ' σ' -> Q' a s') (e : ∀ v s', E v s' -> E' v s') : wpAny M A t Q' E' s :=
 wpAny_mono h (fun a s' x => x.elim fun m x => x.elim fun σ' x => k a s' m σ' x.1 x.2) e
theorem wuse6 {α μ τ υ : Type} {M : Model} {A : Around} {t : Sem α} {V : μ -> α -> Prop} {Rl : τ -> υ -> Shared -> Prop} {Q : μ -> τ -> υ -> Prop} {E E' : Value -> Shared -> Prop} {Q' : α -> Shared -> Prop} {s : Shared}
 (h : wpAny M A t (fun a s' => ∃ m ρ' σ', V m a /\ Rl ρ' σ' s' /\ Q m ρ' σ') E s) (k : ∀ a s' m ρ' σ', V m a -> Rl ρ' σ' s' -> Q m ρ' σ' -> Q' a s') (e : ∀ v s', E v s' -> E' v s') : wpAny M A t Q' E' s :=
 wpAny_mono h (fun a s' x => x.elim fun m x => x.elim fun ρ' x => x.elim fun σ' x => k a s' m ρ' σ' x.1 x.2.1 x.2.2) e
section
variable {α μ : Type} {c : Cx} {i : Ix} {V : μ -> α -> Prop} {t : Env -> Sem α} {ρ : Lo} {Q Q' : μ -> Hp -> Prop} {X : EX} {σ : Hp}
theorem W.mono (h : W c i V t ρ Q X σ) (k : ∀ m σ', Q m σ' -> Q' m σ') : W c i V t ρ Q' X σ := fun f fr z s a b g R =>
 wuse (h f fr z s a b g R) (fun _ _ m σ' v r q => (iEEAA m σ' v r (k m σ' q))) fun _ _ x => x
end
abbrev AttrPlain (e : Expr) (name : Str) : Prop := ∀ env t, attributeBase e name env t = t
abbrev TruthPlain (e : Expr) : Prop := ∀ env t, isTrue e env t = (do let v <- t; standAt e.pos; holding [v] (truthy v))
def noStar : Expr -> Bool
 | .Starred .. => false
 | _ => true
theorem starEach_cons {e : Expr} {rest : List Expr} {env : Env} (h : noStar e = true) : starEach (e :: rest) env = (false, eval e env) :: starEach rest env := by
 cases e <;> first | rfl | cases h
theorem back_any {pos : Pos} {env : Env} : ∀ {es : List Expr}, es.all noStar = true -> (backTo pos (starEach es env)).any (·.1) = false
 | [], _ => rfl
 | e :: r, h => by
  simp only [List.all_cons, Bool.and_eq_true] at h
  rw [starEach_cons h.1]
  show (false || _) = false
  rw [Bool.false_or]
  exact back_any h.2
section
variable {c : Cx} {i : Ix} {ρ : Lo} {σ : Hp}
theorem S.mono {t : Env -> Sem Flow} {Q Q' : MF -> Lo -> Hp -> Prop} {X : SX} (h : S c i t ρ Q X σ) (k : ∀ m ρ' σ', Q m ρ' σ' -> Q' m ρ' σ') : S c i t ρ Q' X σ := fun f fr z s a b g R =>
 wuse6 (h f fr z s a b g R) (fun _ _ m ρ' σ' v r q => (iEEEAA m ρ' σ' v r (k m ρ' σ' q))) fun _ _ x => x
variable {Q : MV -> Hp -> Prop} {X : EX}
theorem WE.none {k pos} (h : Q .none σ) : WE c i (.Constant .none k pos) ρ Q X σ := fun _ _ _ _ _ _ _ R => Constant_none (iEEAA (.none) σ rfl R h)
theorem WE.bool {b k pos} (h : Q (.bool b) σ) : WE c i (.Constant (.bool b) k pos) ρ Q X σ := fun _ _ _ _ _ _ _ R => Constant_bool (iEEAA (.bool b) σ rfl R h)
theorem WE.int {n k pos} (h : Q (.int n) σ) : WE c i (.Constant (.int n) k pos) ρ Q X σ := fun _ _ _ _ _ _ _ R => wpAny_Constant_int (iEEAA (.int n) σ ⟨_, rfl⟩ (R.toks _) h)
theorem WE.str {x k pos} (h : Q (.str x) σ) : WE c i (.Constant (.str x) k pos) ρ Q X σ := fun _ _ _ _ _ _ _ R => Calls.Constant_str (iEEAA (.str x) σ ⟨_, rfl⟩ (R.toks _) h)
theorem WE.binop {l op r pos} (h : WE c i l ρ (fun a σ₁ => WE c i r ρ (fun b σ₂ => WB c i op a b ρ Q X σ₂) X σ₁) X σ) : WE c i (.BinOp l op r pos) ρ Q X σ := fun f fr z s a b g R =>
 wpAny_BinOp (wuse (h f fr z s a b g R) (fun _ s₁ _ _ v₁ R₁ h₁ => wuse (h₁ f fr z s₁ a b g R₁) (fun _ s₂ _ _ v₂ R₂ h₂ => h₂ _ _ v₁ v₂ f fr z s₂ a b g R₂) fun _ _ x => x) fun _ _ x => x)
theorem WE.unary {op e pos} (h : WE c i e ρ (fun a σ₁ => WU c i op a ρ Q X σ₁) X σ) : WE c i (.UnaryOp op e pos) ρ Q X σ := fun f fr z s a b g R =>
 UnaryOp_ (wuse (h f fr z s a b g R) (fun _ s₁ _ _ v₁ R₁ h₁ => h₁ _ v₁ f fr z s₁ a b g R₁) fun _ _ x => x)
theorem WE.attr {e name pos} (hp : AttrPlain e name) (h : WE c i e ρ (fun a σ₁ => WGet c i a name ρ Q X σ₁) X σ) : WE c i (.Attribute e name pos) ρ Q X σ := fun f fr z s a b g R => by
 refine Attribute_any_ (wuse (h f fr z s a b g R) (fun _ s₁ _ _ v₁ R₁ h₁ => h₁ _ v₁ f fr z s₁ a b g R₁) fun _ _ x => x) ?_
 rw [<- hp f.env (eval e f.env)]
 with_unfolding_all rfl
theorem WE.sub {v sl pos} (h : WE c i v ρ (fun a σ₁ => WE c i sl ρ (fun b σ₂ => WSub c i v sl a b ρ Q X σ₂) X σ₁) X σ) : WE c i (.Subscript v sl pos) ρ Q X σ := fun f fr z s a b g R =>
 Subscript_ (wuse (h f fr z s a b g R) (fun _ s₁ _ _ v₁ R₁ h₁ => wuse (h₁ f fr z s₁ a b g R₁) (fun _ s₂ _ _ v₂ R₂ h₂ => h₂ _ _ v₁ v₂ f fr z s₂ a b g R₂) fun _ _ x => x) fun _ _ x => x)
theorem WE.ifexp {t b o pos} (h : WT c i t ρ (fun k σ₁ => if k then WE c i b ρ Q X σ₁ else WE c i o ρ Q X σ₁) X σ) : WE c i (.IfExp t b o pos) ρ Q X σ := fun f fr z s a b' g R =>
 IfExp_ (wuse (h f fr z s a b' g R) (fun k s₁ k' _ e R₁ h₁ => by subst e; cases k' <;> exact h₁ f fr z s₁ a b' g R₁) fun _ _ x => x)
theorem WE.and1 {op e pos} (h : WE c i e ρ Q X σ) : WE c i (.BoolOp op [e] pos) ρ Q X σ := fun f fr z s a b g R => BoolOp_one (h f fr z s a b g R)
theorem WE.and {e₁ e₂ rest pos} (h : WE c i e₁ ρ (fun v σ₁ => WTr c i v ρ (fun k σ₂ => if k then WE c i (.BoolOp .And (e₂ :: rest) pos) ρ Q X σ₂ else Q v σ₂) X σ₁) X σ) : WE c i (.BoolOp .And (e₁ :: e₂ :: rest) pos) ρ Q X σ := fun f fr z s a b g R =>
 BoolOp_and (wuse (h f fr z s a b g R) (fun _ s₁ _ _ v₁ R₁ h₁ => wuse (h₁ _ v₁ f fr z s₁ a b g R₁) (fun k s₂ k' _ e R₂ h₂ => by
  subst e
  cases k' with
  | true => exact h₂ f fr z s₂ a b g R₂
  | false => exact (iEEAA _ _ v₁ R₂ h₂)) fun _ _ x => x) fun _ _ x => x)
theorem WE.or {e₁ e₂ rest pos} (h : WE c i e₁ ρ (fun v σ₁ => WTr c i v ρ (fun k σ₂ => if k then Q v σ₂ else WE c i (.BoolOp .Or (e₂ :: rest) pos) ρ Q X σ₂) X σ₁) X σ) : WE c i (.BoolOp .Or (e₁ :: e₂ :: rest) pos) ρ Q X σ := fun f fr z s a b g R =>
 BoolOp_or (wuse (h f fr z s a b g R) (fun _ s₁ _ _ v₁ R₁ h₁ => wuse (h₁ _ v₁ f fr z s₁ a b g R₁) (fun k s₂ k' _ e R₂ h₂ => by
  subst e
  cases k' with
  | false => exact h₂ f fr z s₂ a b g R₂
  | true => exact (iEEAA _ _ v₁ R₂ h₂)) fun _ _ x => x) fun _ _ x => x)
theorem WE.cmp1 {l op r pos} (hm : behindInMarks op r = false) (h : WE c i l ρ (fun a σ₁ => WE c i r ρ (fun b σ₂ => WC c i op a b ρ Q X σ₂) X σ₁) X σ) : WE c i (.Compare l [op] [r] pos) ρ Q X σ := fun f fr z s a b g R =>
 wpAny_Compare1 (wuse (h f fr z s a b g R) (fun _ s₁ _ _ v₁ R₁ h₁ => wuse (h₁ f fr z s₁ a b g R₁) (fun _ s₂ _ _ v₂ R₂ h₂ => h₂ _ _ v₁ v₂ f fr z s₂ a b g R₂) fun _ _ x => x) fun _ _ x => x) hm
theorem WE.cmp2 {l o₁ o₂ r₁ r₂ pos} (hm : lastMarks [o₁, o₂] [r₁, r₂] = false) (h : WE c i l ρ (fun a σ₁ => WE c i r₁ ρ (fun b σ₂ => WC c i o₁ a b ρ (fun d σ₃ => WTr c i d ρ (fun k σ₄ =>
 if k then WE c i r₂ ρ (fun b' σ₅ => WC c i o₂ b b' ρ Q X σ₅) X σ₄ else Q d σ₄) X σ₃) X σ₂) X σ₁) X σ) : WE c i (.Compare l [o₁, o₂] [r₁, r₂] pos) ρ Q X σ := fun f fr z s a b g R =>
 Compare_chain (wuse (h f fr z s a b g R) (fun _ s₁ _ _ v₁ R₁ h₁ => chain_link (wuse (h₁ f fr z s₁ a b g R₁) (fun _ s₂ _ _ v₂ R₂ h₂ => wuse (h₂ _ _ v₁ v₂ f fr z s₂ a b g R₂) (fun _ s₃ _ _ v₃ R₃ h₃ =>
  wuse (h₃ _ v₃ f fr z s₃ a b g R₃) (fun k s₄ k' _ e R₄ h₄ => by
   subst e
   cases k' with
   | true => exact chain_last (wuse (h₄ f fr z s₄ a b g R₄) (fun _ s₅ _ _ v₅ R₅ h₅ => h₅ _ _ v₂ v₅ f fr z s₅ a b g R₅) fun _ _ x => x)
   | false => exact (iEEAA _ _ v₃ R₄ h₄)) fun _ _ x => x) fun _ _ x => x) fun _ _ x => x)) fun _ _ x => x) hm
end
section
variable {c : Cx} {i : Ix} {ρ : Lo} {σ : Hp} {Q : Bool -> Hp -> Prop} {X : EX}
theorem WT.plain {e : Expr} (hp : TruthPlain e) (h : WE c i e ρ (fun v σ₁ => WTr c i v ρ Q X σ₁) X σ) : WT c i e ρ Q X σ := fun f fr z s a b g R =>
 isTrue_plain (wuse (h f fr z s a b g R) (fun _ s₁ _ _ v₁ R₁ h₁ => h₁ _ v₁ f fr z s₁ a b g R₁) fun _ _ x => x) (hp _ _)
theorem WT.not {e pos} (h : WT c i e ρ (fun k σ₁ => Q (!k) σ₁) X σ) : WT c i (.UnaryOp .Not e pos) ρ Q X σ := fun f fr z s a b g R =>
 isTrue_not (wuse (h f fr z s a b g R) (fun _ s₁ _ _ e R₁ h₁ => (iEEAA _ _ (congrArg _ e) R₁ h₁)) fun _ _ x => x)
def WA (c : Cx) (i : Ix) (op : BoolOp) (es : List Expr) (pos : Pos) (t : Env -> Sem Value) (ρ : Lo) (Q : Bool -> Hp -> Prop) := W c i (· = ·) (fun env => isTrue (.BoolOp op es pos) env (t env)) ρ Q
theorem WA.and_nil {pos t} (h : Q true σ) : WA c i .And [] pos t ρ Q X σ := fun f fr z s a b g R => isTrue_and_nil (iEEAA _ _ rfl R h)
theorem WA.or_nil {pos t} (h : Q false σ) : WA c i .Or [] pos t ρ Q X σ := fun f fr z s a b g R => isTrue_or_nil (iEEAA _ _ rfl R h)
theorem WA.and {e rest pos t} (h : WT c i e ρ (fun k σ₁ => if k then WA c i .And rest pos t ρ Q X σ₁ else Q false σ₁) X σ) : WA c i .And (e :: rest) pos t ρ Q X σ := fun f fr z s a b g R =>
 isTrue_and (wuse (h f fr z s a b g R) (fun _ s₁ k _ e R₁ h₁ => by
  subst e
  cases k with
  | true => exact h₁ f fr z s₁ a b g R₁
  | false => exact (iEEAA _ _ rfl R₁ h₁)) fun _ _ x => x)
theorem WA.or {e rest pos t} (h : WT c i e ρ (fun k σ₁ => if k then Q true σ₁ else WA c i .Or rest pos t ρ Q X σ₁) X σ) : WA c i .Or (e :: rest) pos t ρ Q X σ := fun f fr z s a b g R =>
 isTrue_or (wuse (h f fr z s a b g R) (fun _ s₁ k _ e R₁ h₁ => by
  subst e
  cases k with
  | false => exact h₁ f fr z s₁ a b g R₁
  | true => exact (iEEAA _ _ rfl R₁ h₁)) fun _ _ x => x)
theorem WT.bool {op es pos} (h : WA c i op es pos (eval (.BoolOp op es pos)) ρ Q X σ) : WT c i (.BoolOp op es pos) ρ Q X σ := h
theorem WT.cmp1 {l op r pos} (hm : behindInMarks op r = false) (h : WE c i l ρ (fun a σ₁ => WE c i r ρ (fun b σ₂ => WC c i op a b ρ (fun d σ₃ => WTr c i d ρ Q X σ₃) X σ₂) X σ₁) X σ) : WT c i (.Compare l [op] [r] pos) ρ Q X σ := fun f fr z s a b g R =>
 wpAny_isTrue_Compare1 (wuse (h f fr z s a b g R) (fun _ s₁ _ _ v₁ R₁ h₁ => wuse (h₁ f fr z s₁ a b g R₁) (fun _ s₂ _ _ v₂ R₂ h₂ => wuse (h₂ _ _ v₁ v₂ f fr z s₂ a b g R₂) (fun _ s₃ _ _ v₃ R₃ h₃ => h₃ _ v₃ f fr z s₃ a b g R₃) fun _ _ x => x) fun _ _ x => x) fun _ _ x => x) hm
theorem WT.cmp2 {l o₁ o₂ r₁ r₂ pos} (hm : lastMarks [o₁, o₂] [r₁, r₂] = false) (h : WE c i l ρ (fun a σ₁ => WE c i r₁ ρ (fun b σ₂ => WC c i o₁ a b ρ (fun d σ₃ => WTr c i d ρ (fun k σ₄ =>
 if k then WE c i r₂ ρ (fun b' σ₅ => WC c i o₂ b b' ρ (fun d' σ₆ => WTr c i d' ρ Q X σ₆) X σ₅) X σ₄ else Q false σ₄) X σ₃) X σ₂) X σ₁) X σ) : WT c i (.Compare l [o₁, o₂] [r₁, r₂] pos) ρ Q X σ := fun f fr z s a b g R =>
 isTrue_chain (wuse (h f fr z s a b g R) (fun _ s₁ _ _ v₁ R₁ h₁ => test_link (wuse (h₁ f fr z s₁ a b g R₁) (fun _ s₂ _ _ v₂ R₂ h₂ => wuse (h₂ _ _ v₁ v₂ f fr z s₂ a b g R₂) (fun _ s₃ _ _ v₃ R₃ h₃ =>
  wuse (h₃ _ v₃ f fr z s₃ a b g R₃) (fun k s₄ k' _ e R₄ h₄ => by
   subst e
   cases k' with
   | true => exact test_last (wuse (h₄ f fr z s₄ a b g R₄) (fun _ s₅ _ _ v₅ R₅ h₅ => wuse (h₅ _ _ v₂ v₅ f fr z s₅ a b g R₅) (fun _ s₆ _ _ v₆ R₆ h₆ => h₆ _ v₆ f fr z s₆ a b g R₆) fun _ _ x => x) fun _ _ x => x)
   | false => exact (iEEAA _ _ rfl R₄ h₄)) fun _ _ x => x) fun _ _ x => x) fun _ _ x => x)) fun _ _ x => x) hm
end
end Mine
open PySem PySem.W PyProof.Rows
namespace Mine
theorem mem_lookup {α : Type} {l : List (Str × α)} {x : Str} {a : α} (h : l.lookup x = some a) : (x, a) ∈ l := by
 induction l with
 | nil => cases h
 | cons p r ih =>
  obtain ⟨y, b⟩ := p
  rw [List.lookup_cons] at h
  cases hy : (x == y) with
  | true => rw [hy] at h; cases h; rw [beq_iff_eq.mp hy]; exact .head _
  | false => rw [hy] at h; exact .tail _ (ih h)
section
variable {c : Cx} {i : Ix} {ρ : Lo} {σ : Hp} {Q : MV -> Hp -> Prop} {X : EX}
theorem kindAt {f : Fm} {x : Str} {k : NameKind} (a : f.env.scope = i.sc) (h : i.sc.names.lookup x = some k) : f.env.kindOf x = some k := by
 show f.env.scope.names.lookup x = _; rw [a]; exact h
theorem WE.local {x pos v} (hl : i.sc.names.lookup x = some .local) (hd : (x == ("__debug__" : Str)) = false) (hv : ρ x = some v) (h : Q v σ) : WE c i (.Name x pos) ρ Q X σ := fun f fr z s a b g R => by
 refine eEA R.ns fun m hn hm => ?_
 have := hm x (kindAt a hl)
 rw [hv] at this
 cases e : m x with
 | none => rw [e] at this; exact this.elim
 | some u => rw [e] at this; exact wpAny_Name (wpAny_loadName_local g.kind (kindAt a hl) hn e (iEEAA v σ this R h)) hd
theorem WE.cell {x pos v} (hl : i.sc.names.lookup x = some .cell) (hd : (x == ("__debug__" : Str)) = false) (hv : ρ x = some v) (h : Q v σ) : WE c i (.Name x pos) ρ Q X σ := fun f fr z s a b g R => by
 obtain ⟨k, hk⟩ := Option.isSome_iff_exists.mp (g.celled x (kindAt a hl))
 refine eEEAA (R.cel x k (mem_lookup hk)) fun o u ho hd' hu => ?_
 rw [hv] at hu
 cases u with
 | none => exact hu.elim
 | some u => exact wpAny_Name (wpAny_loadName_cell g.kind (kindAt a hl) hk (iEA o ho hd') (iEEAA v σ hu R h)) hd
theorem WE.global {x pos v} (hl : i.sc.names.lookup x = some .globalImplicit) (hv : c.glob x = some v) (h : Q v σ) : WE c i (.Name x pos) ρ Q X σ := fun f fr z s a b g R => by
 obtain ⟨hd, ⟨u, hu, is⟩ | ⟨hno, hn, u, hu, is⟩⟩ := g.ok.glob x v hv
 · refine Calls.Name_function_global g.kind (kindAt a hl) (Calls.loadGlobal_global (mg := c.mg) (v := u) (by rw [g.globals]; exact (g.at R).g) (mg_of g.K g.top.g hu) (iEEAA v σ is R h)) hd
 · refine Calls.Name_function_global g.kind (kindAt a hl) (Calls.loadGlobal_builtin (mg := c.mg) (mb := c.mb) (v := u) (by rw [g.globals]; exact (g.at R).g) (mg_none_of g.K g.top.g hno) (by rw [g.builtins]; exact (g.at R).b)
    ((g.top.builtins x hn).trans hu) (iEEAA v σ is R h)) hd
end
def Callee (c : Cx) : MV -> Prop
 | .ref a => c.fns a = true ∨ (∃ C x, c.meth C x = some a) ∨ ∃ b, c.init a = some b
 | .con v => ∀ a, v ≠ .ref a
 | _ => False
theorem Callee.keeper {c : Cx} (ok : CxOk c) {fn : MV} {v : Value} {h : Heap} (K : c.K.In h) (x : Callee c fn) (is : fn.Is v) : ∃ k, (k = Keeper.frame ∨ k = Keeper.machine ∨ k = Keeper.boundFrame) /\ Looks c.M h (keeperOf v) k := by
 cases fn with
 | ref a =>
  cases is
  rcases x with x | ⟨C, y, x⟩ | ⟨b, x⟩
  · exact keeps_K (ok.fns a x) h K
  · exact keeps_K (ok.meth C y a x).2.2.2 h K
  · exact keeps_K (ok.init a b x).2.2.2 h K
 | con u =>
  cases is
  refine (iEA (.machine) (.inr (.inl rfl)) ?_)
  cases v <;> first | exact Looks.of_pure rfl | exact absurd rfl (x _)
 | _ => exact x.elim
section
variable {c : Cx} {i : Ix} {ρ : Lo} {σ : Hp} {X : EX}
theorem WEs.nil {pos} {Q : List MV -> Hp -> Prop} (h : Q [] σ) : WEs c i pos [] ρ Q X σ := fun f fr z s a b g R => spliced_none (iEEAA ([]) σ (.nil) R h)
theorem WEs.cons {pos e es} {Q : List MV -> Hp -> Prop} (hs : noStar e = true) (h : WE c i e ρ (fun v σ₁ => WEs c i pos es ρ (fun vs σ₂ => Q (v :: vs) σ₂) X σ₁) X σ) : WEs c i pos (e :: es) ρ Q X σ := fun f fr z s a b g R =>
 spliced_more (wuse (h f fr z s a b g R) (fun _ s₁ _ _ v₁ R₁ h₁ => wuse (h₁ f fr z s₁ a b g R₁) (fun _ s₂ _ _ v₂ R₂ h₂ => (iEEAA _ _ (.cons v₁ v₂) R₂ h₂)) fun _ _ x => x) fun _ _ x => x) (starEach_cons hs)
theorem W.callWith {pos : Pos} {fn : MV} {v : Value} {first : List MV} {us : List Value} {es : List Expr} {Q : MV -> Hp -> Prop} (ic : Callee c fn) (iv : fn.Is v) (iu : All2 MV.Is first us) (hs : es.all noStar = true)
 (h : WEs c i pos es ρ (fun vs σ₁ => WCall c i fn (first ++ vs) ρ Q X σ₁) X σ) : W c i MV.Is (fun env => callWith pos v us (backTo pos (starEach es env)) []) ρ Q X σ := fun f fr z s a b g R => by
 refine callWith_of (P := fun h => c.K.In h) ?_ (fun h K => ic.keeper g.ok K iv) ?_
 · rw [back_any hs]; rfl
 · cases es with
   | nil =>
    refine evalArgs_nil3 ?_
    obtain h := h f fr z s a b g R
    refine ⟨g.inK R, ?_⟩
    have h := h
    have key : wpAny c.M f.A (spliced (backTo pos (starEach [] f.env))) (fun vs s₁ => vs = [] -> s₁ = s -> wpAny c.M f.A (call v (us ++ [])) (fun a s' => ∃ m σ', MV.Is m a /\ c.Rel f ρ σ' fr z s' /\ Q m σ') (XPost c f fr z (X.at ρ)) s) (XPost c f fr z (X.at ρ)) s := by
     refine wuse h (fun vs s₁ ms σ₁ iv' R₁ h₁ e1 e2 => ?_) fun _ _ x => x
     subst e1 e2
     cases iv'
     exact h₁ _ _ iv (iu.append .nil) f fr z _ a b g R₁
    intro Γ p hΓ
    exact key Γ p hΓ rfl rfl Γ p hΓ
   | cons e es =>
    have hs' := hs
    simp only [List.all_cons, Bool.and_eq_true] at hs'
    have h := h f fr z s a b g R
    dsimp only at h
    rw [starEach_cons hs'.1] at h ⊢
    refine Calls.evalArgs_plain (wuse h (fun vs s₁ ms σ₁ iv' R₁ h₁ => ⟨g.inK R₁, h₁ _ _ iv (iu.append iv') f fr z s₁ a b g R₁⟩) fun _ _ x => x)
theorem WE.call {fe es pos} {Q : MV -> Hp -> Prop} (hf : (match fe with | .Attribute .. => false | _ => true) = true) (hs : es.all noStar = true)
 (h : WE c i fe ρ (fun fn σ₁ => Callee c fn /\ WEs c i pos es ρ (fun vs σ₂ => WCall c i fn vs ρ Q X σ₂) X σ₁) X σ) : WE c i (.Call fe es [] pos) ρ Q X σ := fun f fr z s a b g R =>
 Call_ (wuse (h f fr z s a b g R) (fun _ s₁ fn _ v₁ R₁ q9 => W.callWith (first := []) q9.1 v₁ .nil hs q9.2 f fr z s₁ a b g R₁) fun _ _ x => x) (by cases fe <;> first | rfl | cases hf)
end
theorem eval_method {o : Expr} {name : Str} {apos pos : Pos} {es : List Expr} {env : Env} (hp : AttrPlain o name) (hs : es.all noStar = true) (hl : decide (es.length < 30) = true) (hpos : (apos.endLine == pos.line) = true) :
 eval (.Call (.Attribute o name apos) es [] pos) env = (do
  let ov <- eval o env
  standAt apos.atName
  let (f, first) <- holding [ov] (getMethod ov name (do return (<- importBound o env).getD true))
  callWith pos f first (backTo pos (starEach es env)) []) := by
 have h1 : methodCallForm (es.length + 0) (backTo pos (starEach es env)) [] = true := by
  unfold methodCallForm
  have : (backTo pos (starEach es env)).all (fun x => !x.1) = true := by
   have h := back_any (pos := pos) (env := env) hs
   rw [List.all_eq_not_any_not]
   simp only [Bool.not_not]
   rw [h]; rfl
  rw [this]
  simp only [List.all_nil, List.isEmpty_nil, if_true, Bool.and_self, Bool.true_and]
  simpa using of_decide_eq_true hl
 have e0 : eval (.Call (.Attribute o name apos) es [] pos) env = (do
  let ov <- attributeBase o name env (eval o env)
  standAt apos.atName
  methodCall o name apos pos env ov (es.length + 0) (backTo pos (starEach es env)) []) := by with_unfolding_all rfl
 rw [e0, hp]
 unfold methodCall
 rw [h1]
 have h2 : methodCallPos true o env apos pos = pure pos := by unfold methodCallPos; rw [hpos]; rfl
 rw [h2]
 rfl
def PairIs (x : MV × List MV) (y : Value × List Value) : Prop := x.1.Is y.1 /\ All2 MV.Is x.2 y.2
def WM (c : Cx) (i : Ix) (ov : MV) (name : Str) (ρ : Lo) (Q : MV × List MV -> Hp -> Prop) (X : EX) (σ : Hp) := ∀ v pl, ov.Is v -> W c i PairIs (fun _ => getMethod v name pl) ρ Q X σ
section
variable {c : Cx} {i : Ix} {ρ : Lo} {σ : Hp} {X : EX}
theorem WE.method {o name apos es pos} {Q : MV -> Hp -> Prop} (hp : AttrPlain o name) (hs : es.all noStar = true) (hl : decide (es.length < 30) = true) (hpos : (apos.endLine == pos.line) = true)
 (h : WE c i o ρ (fun ov σ₁ => WM c i ov name ρ (fun fx σ₂ => Callee c fx.1 /\ WEs c i pos es ρ (fun vs σ₃ => WCall c i fx.1 (fx.2 ++ vs) ρ Q X σ₃) X σ₂) X σ₁) X σ) : WE c i (.Call (.Attribute o name apos) es [] pos) ρ Q X σ := fun f fr z s a b g R =>
 MethodCall_ (wuse (h f fr z s a b g R) (fun _ s₁ _ _ v₁ R₁ h₁ => wuse (h₁ _ _ v₁ f fr z s₁ a b g R₁) (fun fx s₂ _ _ v₂ R₂ q9 => W.callWith q9.1 v₂.1 v₂.2 hs q9.2 f fr z s₂ a b g R₂) fun _ _ x => x) fun _ _ x => x) (eval_method hp hs hl hpos)
end
def WSt (c : Cx) (i : Ix) (x : Str) (v : MV) (ρ : Lo) (Q : Lo -> Hp -> Prop) (X : SX) (σ : Hp) : Prop :=
 ∀ u, v.Is u -> ∀ f fr z s, f.env.scope = i.sc -> (i.hn = true -> f.A.handled = none) -> Good c i.n f fr -> c.Rel f ρ σ fr z s ->
  wpAny c.M f.A (storeName f.env x u) (fun _ s' => ∃ ρ' σ', c.Rel f ρ' σ' fr z s' /\ Q ρ' σ') (XPost c f fr z X) s
theorem Rel.putLocal {c : Cx} {f : Fm} {ρ : Lo} {σ : Hp} {fr : Nat -> Option Obj} {z s : Shared} (R : c.Rel f ρ σ fr z s) {x : Str} {v : MV} {u : Value} (is : v.Is u) {m : Str -> Option Value} {h' : Heap} {tk : Nat}
 (hm : ∀ y, f.env.scope.names.lookup y = some .local -> OptIs (ρ y) (m y)) (hn : h'.Ns f.env.locals (fun y => if y = x then some u else m y)) (hs : Heap.SameBut f.env.locals s.heap h')
 (hx : f.env.scope.names.lookup x = some .local) (hc : ∀ k, (x, k) ∉ f.env.cells) (hcl : ∀ y k, (y, k) ∈ f.env.cells -> k ≠ f.env.locals) : c.Rel f (ρ.put x v) σ fr z { s with heap := h', toks := tk } where
 same := R.same
 keep := fun a o e => let ⟨sl, e1, e2⟩ := R.keep a o e; (iEA sl ((hs.2 a fun q => by have := R.frame.1; rw [show f.L = a from q.symm, e] at this; cases this).trans e1) e2)
 objs := fun a t mo e => (R.objs a t mo e).of_same (fun o e' => (hs.2 a (R.neL e)).trans e') fun d o hi ed e' => (hs.2 d (by
  subst ed
  cases mo <;> first | cases hi | skip
  exact (R.apart d (.inr (iE3 _ _ _ e))).2.1)).trans e'
 wf := R.wf
 apart := R.apart
 ns := ⟨_, hn, fun y hy => by
  by_cases q : y = x
  · subst q; simp only [Lo.put, if_true]; exact is
  · simp only [Lo.put, if_neg q]; exact hm y hy⟩
 cel := fun y k hk => by
  refine eEEAA (R.cel y k hk) fun o v' e d r => ?_
  refine (iEEAA o v' ((hs.2 k (hcl y k hk)).trans e) d ?_)
  have : y ≠ x := fun q => hc k (q ▸ hk)
  simp only [Lo.put, if_neg this]; exact r
 frame := R.frame
 kl := R.kl
section
variable {c : Cx} {i : Ix} {ρ : Lo} {σ : Hp} {X : SX}
theorem WSt.local {x v} {Q : Lo -> Hp -> Prop} (hl : i.sc.names.lookup x = some .local) (h : Q (ρ.put x v) σ) : WSt c i x v ρ Q X σ := fun u is f fr z s a b g R => by
 refine eEA R.ns fun m hn hm => ?_
 refine wpAny_storeName_local (kindAt a hl) hn (fun h' hn' hs' => (iEEA _ _ (R.putLocal is hm hn' hs' (kindAt a hl) (fun k hk => g.cellk x k hk (kindAt a hl)) (fun y k hk => g.cellnd.2.2 y k hk)) h)) ?_
 rw [g.kind]; rfl
abbrev NoComp (e : Expr) : Prop := ∀ t n env, swapsWith e t n env = pure false
theorem Ex.at {f : Fm} {fr : Nat -> Option Obj} {z : Shared} {X : SX} {ρ : Lo} {v : Value} {s : Shared} (h : XPost c f fr z (EX.at (fun b C e σ' => X b C e ρ σ') ρ) v s) : XPost c f fr z X v s := by
 refine eE5 h fun b C e ρ' σ' y0' => eA3 y0' fun z1' r z2' q => ?_; clear h; subst z1'; subst z2'
 exact (iE5 b C e _ σ' (iA2 rfl r q))
variable {Q : MF -> Lo -> Hp -> Prop}
abbrev SX.ex (X : SX) (ρ : Lo) : EX := fun b C e σ' => X b C e ρ σ'
theorem Wn (h : Q .next ρ σ) : WSs c i [] ρ Q X σ := fun f fr z s a b g R => wpAny_execs_nil (iEEEAA (.next) ρ σ rfl R h)
abbrev Nx (c : Cx) (i : Ix) (rest : List Stmt) (Q : MF -> Lo -> Hp -> Prop) (X : SX) : MF -> Lo -> Hp -> Prop := fun m ρ₁ σ₁ => match m with | .next => WSs c i rest ρ₁ Q X σ₁ | m => Q m ρ₁ σ₁
theorem Wc {st rest} (h : WS c i st ρ (Nx c i rest Q X) X σ) : WSs c i (st :: rest) ρ Q X σ := fun f fr z s a b g R =>
 wpAny_execs_cons (wuse6 (h f fr z s a b g R) (fun fl s₁ m ρ₁ σ₁ is R₁ h₁ => by
  cases m with
  | next => cases is; exact h₁ f fr z s₁ a b g R₁
  | brk => cases is; exact (iEEEAA (.brk) ρ₁ σ₁ rfl R₁ h₁)
  | cont => cases is; exact (iEEEAA (.cont) ρ₁ σ₁ rfl R₁ h₁)
  | ret v => refine eEA is fun u z1' z2' => ?_; clear is; have is := z2'; clear z2'; subst z1'; exact (iEEEAA (.ret v) ρ₁ σ₁ (iEA u rfl is) R₁ h₁)) fun _ _ x => x)
theorem WS.brk {pos} (h : Q .brk ρ σ) : WS c i (.Break pos) ρ Q X σ := fun f fr z s a b g R => wpAny_Break (iEEEAA (.brk) ρ σ rfl R h)
theorem WS.expr {e pos} (hi : NoComp e) (h : WE c i e ρ (fun v σ₁ => Q .next ρ σ₁) (X.ex ρ) σ) : WS c i (.Expr e pos) ρ Q X σ := fun f fr z s a b g R =>
 wpAny_Expr_any (wuse (h f fr z s a b g R) (fun _ s₁ _ σ₁ _ R₁ h₁ => (iEEEAA (.next) ρ σ₁ rfl R₁ h₁)) fun _ _ x => Ex.at x) (by
  show (f.env.scope.kind == .module && _) = false
  rw [g.kind]; rfl) (hi _ _ _)
theorem WS.ret {e pos} (h : WE c i e ρ (fun v σ₁ => Q (.ret v) ρ σ₁) (X.ex ρ) σ) : WS c i (.Return (some e) pos) ρ Q X σ := fun f fr z s a b g R =>
 wpAny_Return_some (wuse (h f fr z s a b g R) (fun u s₁ v σ₁ is R₁ h₁ => (iEEEAA (.ret v) ρ σ₁ (iEA u rfl is) R₁ h₁)) fun _ _ x => Ex.at x)
theorem WS.assign {x xp e pos} (hi : NoComp e) (h : WE c i e ρ (fun v σ₁ => WSt c i x v ρ (fun ρ₂ σ₂ => Q .next ρ₂ σ₂) X σ₁) (X.ex ρ) σ) : WS c i (.Assign [.Name x xp] e pos) ρ Q X σ := fun f fr z s a b g R =>
 wpAny_Assign_Name (wuse (h f fr z s a b g R) (fun u s₁ v σ₁ is R₁ h₁ => wuse4 (h₁ u is f fr z s₁ a b g R₁) (fun _ s₂ ρ₂ σ₂ R₂ h₂ => (iEEEAA (.next) ρ₂ σ₂ rfl R₂ h₂)) fun _ _ x => x) fun _ _ x => Ex.at x) (hi _ _ _)
theorem WS.setAttr {o name op e pos} (hi : NoComp e) (h : WE c i e ρ (fun v σ₁ => WE c i o ρ (fun ov σ₂ => WSet c i ov name v ρ (fun _ σ₃ => Q .next ρ σ₃) (X.ex ρ) σ₂) (X.ex ρ) σ₁) (X.ex ρ) σ) : WS c i (.Assign [.Attribute o name op] e pos) ρ Q X σ := fun f fr z s a b g R =>
 plainObj_wpAny_Assign_Attribute (wuse (h f fr z s a b g R) (fun u s₁ v σ₁ is R₁ h₁ => wuse (h₁ f fr z s₁ a b g R₁) (fun u₂ s₂ v₂ σ₂ is₂ R₂ h₂ => wpAny_mono (h₂ _ _ is₂ is f fr z s₂ a b g R₂)
  (fun _ s₃ z9 => by obtain ⟨_, σ₃, _, R₃, h₃⟩ := z9; exact ⟨.next, ρ, σ₃, rfl, R₃, h₃⟩) fun _ _ x => Ex.at x) fun _ _ x => Ex.at x) fun _ _ x => Ex.at x) (hi _ _ _)
theorem WS.setItem {o k op e pos} (hi : NoComp e) (h : WE c i e ρ (fun v σ₁ => WE c i o ρ (fun ov σ₂ => WE c i k ρ (fun kv σ₃ => WPut c i ov kv v ρ (fun _ σ₄ => Q .next ρ σ₄) (X.ex ρ) σ₃) (X.ex ρ) σ₂) (X.ex ρ) σ₁) (X.ex ρ) σ) :
 WS c i (.Assign [.Subscript o k op] e pos) ρ Q X σ := fun f fr z s a b g R =>
 wpAny_Assign_Subscript (wuse (h f fr z s a b g R) (fun u s₁ v σ₁ is R₁ h₁ => wuse (h₁ f fr z s₁ a b g R₁) (fun u₂ s₂ v₂ σ₂ is₂ R₂ h₂ => wuse (h₂ f fr z s₂ a b g R₂) (fun u₃ s₃ v₃ σ₃ is₃ R₃ h₃ =>
  wuse (h₃ _ _ _ is₂ is₃ is f fr z s₃ a b g R₃) (fun _ s₄ _ σ₄ _ R₄ h₄ => (iEEEAA (.next) ρ σ₄ rfl R₄ h₄)) fun _ _ x => Ex.at x) fun _ _ x => Ex.at x) fun _ _ x => Ex.at x) fun _ _ x => Ex.at x) (hi _ _ _)
theorem WS.augAttr {o name tp op e pos} (h : WE c i o ρ (fun ov σ₁ => WGet c i ov name ρ (fun old σ₂ => WE c i e ρ (fun v σ₃ => WI c i op old v ρ (fun n σ₄ => WSet c i ov name n ρ (fun _ σ₅ => Q .next ρ σ₅) (X.ex ρ) σ₄) (X.ex ρ) σ₃) (X.ex ρ) σ₂) (X.ex ρ) σ₁) (X.ex ρ) σ) :
 WS c i (.AugAssign (.Attribute o name tp) op e pos) ρ Q X σ := fun f fr z s a b g R =>
 wpAny_AugAssign_AttributeAny (wuse (h f fr z s a b g R) (fun u s₁ v σ₁ is R₁ h₁ => wuse (h₁ _ is f fr z s₁ a b g R₁) (fun u₂ s₂ v₂ σ₂ is₂ R₂ h₂ => wuse (h₂ f fr z s₂ a b g R₂) (fun u₃ s₃ v₃ σ₃ is₃ R₃ h₃ =>
  wuse (h₃ _ _ is₂ is₃ f fr z s₃ a b g R₃) (fun u₄ s₄ _ σ₄ is₄ R₄ h₄ => wuse (h₄ _ _ is is₄ f fr z s₄ a b g R₄) (fun _ s₅ _ σ₅ _ R₅ h₅ => (iEEEAA (.next) ρ σ₅ rfl R₅ h₅)) fun _ _ x => Ex.at x) fun _ _ x => Ex.at x) fun _ _ x => Ex.at x) fun _ _ x => Ex.at x) fun _ _ x => Ex.at x)
theorem WS.ite {t b o pos} (h : WT c i t ρ (fun k σ₁ => if k then WSs c i b ρ Q X σ₁ else WSs c i o ρ Q X σ₁) (X.ex ρ) σ) : WS c i (.If t b o pos) ρ Q X σ := fun f fr z s a b' g R =>
 wpAny_If (wuse (h f fr z s a b' g R) (fun k s₁ k' σ₁ e R₁ h₁ => by subst e; cases k' <;> exact h₁ f fr z s₁ a b' g R₁) fun _ _ x => Ex.at x)
end
end Mine
open PySem PySem.W PyProof.Rows
namespace Mine
def bindLo : List Str -> List MV -> Lo -> Lo
 | p :: ps, a :: as, ρ => bindLo ps as (ρ.put p a)
 | _, _, ρ => ρ
def scopeOk (scope : Scope) (ps : List Str) : Bool :=
 scope.kind == .function && !scope.isCoroutine && !scope.isGenerator &&
 ps.all (fun x => scope.names.lookup x == some .local || scope.names.lookup x == some .cell) &&
 (cellsFrom 0 scope.names []).all (fun p => scope.names.lookup p.1 != some .local) && decide ((cellsFrom 0 scope.names []).map (·.1)).Nodup
theorem bindLo_local {kind : Str -> Option NameKind} {x : Str} (hx : kind x = some .local) : ∀ {ps : List Str} {as : List MV} {us : List Value} {ρ : Lo} {m : Str -> Option Value}, All2 MV.Is as us -> OptIs (ρ x) (m x) -> OptIs (bindLo ps as ρ x) (bindL kind (ps.zip us) m x)
 | [], as, us, ρ, m, _, h => by simpa [bindLo, bindL] using h
 | p :: ps, [], us, ρ, m, hh, h => by cases hh; simpa [bindLo, bindL] using h
 | p :: ps, a :: as, _, ρ, m, .cons r rs, h => by
  simp only [bindLo, List.zip_cons_cons, bindL]
  refine bindLo_local hx rs ?_
  by_cases q : x = p
  · subst q; simp only [Lo.put, if_true, hx]; exact r
  · by_cases k : kind p = some .local
    · simp only [Lo.put, if_neg q, if_pos k]; exact h
    · simp only [Lo.put, if_neg q, if_neg k]; exact h
theorem bindLo_cell {kind : Str -> Option NameKind} {x : Str} (hx : kind x ≠ some .local) : ∀ {ps : List Str} {as : List MV} {us : List Value} {ρ : Lo} {m : Str -> Option Value}, All2 MV.Is as us -> OptIs (ρ x) (m x) -> OptIs (bindLo ps as ρ x) (bindC kind (ps.zip us) m x)
 | [], as, us, ρ, m, _, h => by simpa [bindLo, bindC] using h
 | p :: ps, [], us, ρ, m, hh, h => by cases hh; simpa [bindLo, bindC] using h
 | p :: ps, a :: as, _, ρ, m, .cons r rs, h => by
  simp only [bindLo, List.zip_cons_cons, bindC]
  refine bindLo_cell hx rs ?_
  by_cases q : x = p
  · subst q; simp only [Lo.put, if_true, if_neg hx]; exact r
  · by_cases k : kind p = some .local
    · simp only [Lo.put, if_neg q, if_pos k]; exact h
    · simp only [Lo.put, if_neg q, if_neg k]; exact h
def MF.val : MF -> MV
 | .ret v => v
 | _ => .none
theorem cellsFrom_lt : ∀ (names : List (Str × NameKind)) (n : Nat) (acc : List (Str × Nat)), (∀ p ∈ acc, p.2 < n) -> (acc.map (·.2)).Nodup -> ((cellsFrom n names acc).map (·.2)).Nodup
 | [], n, acc, _, h => h
 | (y, k) :: r, n, acc, ha, h => by
  unfold cellsFrom
  by_cases hk : (k == .cell) = true
  · rw [if_pos hk]
    refine cellsFrom_lt r (n + 1) ((y, n) :: acc) (fun p hp => ?_) ?_
    · rcases List.mem_cons.mp hp with rfl | hp
      · exact Nat.lt_succ_self _
      · exact Nat.lt_succ_of_lt (ha p hp)
    · simp only [List.map_cons, List.nodup_cons]
      refine ⟨fun hm => ?_, h⟩
      refine eEA (Mm hm) fun p hp e => ?_
      have := ha p hp
      omega
  · rw [if_neg hk]; exact cellsFrom_lt r n acc ha h
open Classical in
noncomputable def restOf (σ : Hp) (s : Shared) : Nat -> Option Obj := fun a => if Foot σ a then none else s.heap.get? a
theorem Good.frame_in {c : Cx} {n : Nat} {f : Fm} {fr : Nat -> Option Obj} (g : Good c n f fr) {ρ : Lo} {σ : Hp} {z s : Shared} (R : c.Rel f ρ σ fr z s) : ∀ env ∈ f.top :: f.outer, env.scope.kind ≠ .module /\ ∃ L o, env.frame = some L /\ restOf σ s L = some o /\ (∀ vs, o.data ≠ .fields vs) /\ f.base.get? L = none := by
 intro env he
 rcases List.mem_cons.mp he with rfl | he
 · refine ⟨by rw [g.topk.1]; (intro q; cases q), ?_⟩
   refine eEAA g.topL fun L hL h hb => ?_
   rcases h with rfl | ⟨hs, o, ho, hd⟩
   · refine eEA R.ns fun m z1' _ => ?_; obtain ⟨o, es, ep, h1, h2, _⟩ := z1'
     refine (iEEAAA _ o hL ?_ (fun vs e => (by rw [h2] at e; cases e)) hb)
     unfold restOf
     rw [if_neg fun hf => (R.apart _ hf).2.1 rfl]; exact h1
   · refine eEA (R.keep L o ho) fun sl h1 _ => ?_
     refine (iEEAAA L ({ o with slots := sl }) hL ?_ hd hb)
     unfold restOf
     rw [if_neg fun hf => by have := (R.apart _ hf).1; rw [ho] at this; cases this]; exact h1
 · refine eAEEAAA (g.outer env he) fun hk L o hL hs ho hd => ?_
   refine eEA (R.keep L o ho) fun sl h1 _ => ?_
   refine (iAEEAAA hk L ({ o with slots := sl }) hL ?_ hd (g.apart L hs))
   unfold restOf
   rw [if_neg fun hf => by have := (R.apart _ hf).1; rw [ho] at this; cases this]; exact h1
def newFm (f : Fm) (qual : Str) (scope : Scope) (L fa : Nat) (cd : Value) : Fm where
 A := f.A.deeper (envOfC qual scope L fa cd)
 env := envOfC qual scope L fa cd
 top := envOfC qual scope L fa cd
 outer := f.top :: f.outer
 slotted := frameAddrs (f.top :: f.outer)
 base := f.base
theorem Rel.back {c : Cx} {n : Nat} {f f' : Fm} {fr : Nat -> Option Obj} (g : Good c n f fr) {ρ ρ' : Lo} {σ σ' : Hp} {z s s' : Shared} (R : c.Rel f ρ σ fr z s) (hs : f'.slotted = frameAddrs (f.top :: f.outer)) (hbs : f'.base = f.base) (R' : c.Rel f' ρ' σ' (restOf σ s) z s') : c.Rel f ρ σ' fr z s' := by
 have rest : ∀ {a : Nat} {o : Obj}, ¬ Foot σ a -> s.heap.get? a = some o -> restOf σ s a = some o := fun h e => by unfold restOf; rw [if_neg h]; exact e
 have nf : ∀ {a : Nat} {o : Obj}, fr a = some o -> ¬ Foot σ a := fun e h => by have := (R.apart _ h).1; rw [e] at this; cases this
 have nL : ¬ Foot σ f.env.locals := fun h => (R.apart _ h).2.1 rfl
 have nC : ∀ {x k}, (x, k) ∈ f.env.cells -> ¬ Foot σ k := fun hk h => (R.apart _ h).2.2 _ _ hk rfl
 refine eEA R.ns fun m z1' hm => ?_; obtain ⟨oL, es, ep, h1, h2⟩ := z1'
 refine ⟨R'.same, fun a o e => ?_, R'.objs, R'.wf, fun a hf => (iA2 ?_ ?_ (fun x k hk => ?_)), ?_, fun x k hk => ?_, R.frame, fun a t xs o e => hbs ▸ R'.kl a t xs o e⟩
 · refine eEA (R.keep a o e) fun sl e1 e2 => ?_
   refine eEA (R'.keep a _ (rest (nf e) e1)) fun sl' e3 e4 => ?_
   refine (iEA sl' e3 (fun ha => ?_))
   rw [e4 fun hm => ?_, <- e2 ha]
   rw [hs] at hm
   rcases g.slots a hm with rfl | h
   · have := R.frame.1; rw [show fr f.L = fr f.env.locals from rfl, e] at this; cases this
   · exact ha h
 · cases e : fr a with
   | none => rfl
   | some o =>
    refine eEA (R.keep a o e) fun sl e1 _ => ?_
    have := (R'.apart a hf).1
    rw [rest (nf e) e1] at this; cases this
 · intro q
   have := (R'.apart a hf).1
   rw [q, rest nL h1] at this; cases this
 · intro q
   refine eEEA (R.cel x k hk) fun o v e1 _ => ?_
   have := (R'.apart a hf).1
   rw [q, rest (nC hk) e1] at this; cases this
 · refine eEA (R'.keep _ _ (rest nL h1)) fun sl e1 _ => ?_
   exact (iEA m (iE3 _ es ep ⟨e1, h2⟩) hm)
 · refine eEEAA (R.cel x k hk) fun o v e1 d r => ?_
   refine eEA (R'.keep _ _ (rest (nC hk) e1)) fun sl e2 _ => ?_
   exact (iEEAA _ v e2 d r)
theorem scopeOk_of {scope : Scope} {ps : List Str} (h : scopeOk scope ps = true) : scope.kind = .function /\ scope.isCoroutine = false /\ scope.isGenerator = false /\ (∀ x ∈ ps, scope.names.lookup x = some .local ∨ scope.names.lookup x = some .cell) /\
 (∀ p ∈ cellsFrom 0 scope.names [], scope.names.lookup p.1 ≠ some .local) /\ ((cellsFrom 0 scope.names []).map (·.1)).Nodup := by
 simp only [scopeOk, Bool.and_eq_true, beq_iff_eq, Bool.not_eq_true', List.all_eq_true, Bool.or_eq_true, bne_iff_ne, ne_eq, decide_eq_true_eq] at h
 obtain ⟨⟨⟨⟨⟨a, b⟩, c⟩, d⟩, e⟩, f⟩ := h
 exact (iA5 a b c d e f)
structure FnAt (c : Cx) (a : Nat) (ps : List Str) (body : List Stmt) (scope : Scope) : Prop where
 at_ : ∃ oc od osl name qual params dV kV doc pm an cdv ct, c.K.lookup a = some ⟨oc, od, .func (fnX name qual params body scope [] dV kV doc pm an cdv ct), osl⟩ /\ codeIn c.K cdv qual = true /\
  ∀ us : List Value, us.length = ps.length -> bindArgs (fnX name qual params body scope [] dV kV doc pm an cdv ct) ⟨us, []⟩ = pure (ps.zip us)
 scope : scopeOk scope ps = true
theorem newFm_good {c : Cx} {n : Nat} {f : Fm} {fr : Nat -> Option Obj} (g : Good c (n + 1) f fr) {ρ : Lo} {σ : Hp} {z s : Shared} (R : c.Rel f ρ σ fr z s) {qual : Str} {scope : Scope} {fa : Nat} {cd : Value} {ps : List Str} (hs : scopeOk scope ps = true) :
 Good c n (newFm f qual scope s.heap.objs.size fa cd) (restOf σ s) := by
 refine eA5 (scopeOk_of hs) fun hk hco hgen hps hcl hnd => ?_
 have nm := cellsFrom_names scope.names 0 (s.heap.objs.size + 1) [] [] rfl
 have cellk : ∀ x k, (x, k) ∈ cellsFrom (s.heap.objs.size + 1) scope.names [] -> scope.names.lookup x ≠ some .local := fun x k hx => by
  have : x ∈ (cellsFrom 0 scope.names []).map (·.1) := by rw [nm]; exact Mn (iEA _ hx rfl)
  refine eEA (Mm this) fun p hp z1' => ?_; subst z1'
  exact hcl p hp
 have cgt : ∀ (names : List (Str × NameKind)) (n : Nat) (acc : List (Str × Nat)) (lo : Nat), lo < n -> (∀ p ∈ acc, lo < p.2) -> ∀ p ∈ cellsFrom n names acc, lo < p.2 := by
  intro names
  induction names with
  | nil => intro n acc lo _ h; exact h
  | cons q r ih =>
   obtain ⟨y, k⟩ := q
   intro n acc lo hlo h
   unfold cellsFrom
   by_cases hk : (k == .cell) = true
   · rw [if_pos hk]
     refine ih (n + 1) _ lo (by omega) fun p hp => ?_
     rcases List.mem_cons.mp hp with rfl | hp
     · exact hlo
     · exact h p hp
   · rw [if_neg hk]; exact ih n acc lo hlo h
 have hfr := g.frame_in R
 exact {
  ok := g.ok
  base := fun a o e => by
   unfold restOf
   rw [if_neg fun hf => by have := (R.apart a hf).1; rw [g.base a o e] at this; cases this]
   exact g.keep R a o e
  apart := fun a ha => by
   refine eEA (List.mem_filterMap.mp ha) fun env he hf => ?_
   refine eAEEAAA (hfr env he) fun _ L o hL _ _ hb => ?_
   rw [hL] at hf; cases hf; exact hb
  K := g.K
  top := g.top
  kind := hk
  globals := rfl
  celled := fun x hx => cellsFrom_some _ _ _ (.inl hx)
  cellk := cellk
  cellnd := ⟨cellsFrom_lt _ _ _ (fun _ h => nomatch h) (by simp), by show ((cellsFrom (s.heap.objs.size + 1) scope.names []).map (·.1)).Nodup; rw [<- nm]; exact hnd, fun x k hx => by
   have := cgt scope.names (s.heap.objs.size + 1) [] s.heap.objs.size (by omega) (fun _ h => nomatch h) (x, k) hx
   show k ≠ s.heap.objs.size
   intro q; subst q; exact Nat.lt_irrefl _ this⟩
  builtins := rfl
  room := by
   have := g.room
   show f.A.depth + 1 + 2 * n < recursionLimit
   omega
  units := by
   have := g.units
   show f.A.units + 3 + 40 * n < cLine
   omega
  frames := by show f.A.frames.map _ = _; rw [g.frames]; rfl
  topk := (iA4 hk rfl rfl hgen hco)
  low := g.low
  slots := fun a ha => by
   refine eEA (List.mem_filterMap.mp ha) fun env he hf => ?_
   rcases List.mem_cons.mp he with rfl | he
   · left; cases hf; rfl
   · right; exact List.mem_filterMap.mpr (iEA env he hf)
  topL := ⟨s.heap.objs.size, rfl, .inl rfl, by
   cases e : f.base.get? s.heap.objs.size with
   | none => exact e
   | some o => exact absurd (Heap.lt_size (g.keep R _ _ e)) (Nat.lt_irrefl _)⟩
  slotIn := fun a ha => by
   refine eEA (List.mem_filterMap.mp ha) fun env he hf => ?_
   refine eAEEAAA (hfr env he) fun _ L o hL hr _ _ => ?_
   rw [hL] at hf; cases hf; exact ⟨o, hr⟩
  home := rfl
  outer := fun env he => by
   refine eAEEAAA (hfr env he) fun h1 L o hL hr hd hb => ?_
   exact (iAEEAAA h1 L o hL (List.mem_filterMap.mpr (iEA env he hL)) hr hd) }
theorem newFm_rel {c : Cx} {n : Nat} {f : Fm} {fr : Nat -> Option Obj} (g : Good c n f fr) {ρ : Lo} {σ : Hp} {z s s' : Shared} (R : c.Rel f ρ σ fr z s) {qual : Str} {scope : Scope} {fa : Nat} {cd : Value} {ps : List Str} {as : List MV} {us : List Value} (hs : scopeOk scope ps = true)
 (is : All2 MV.Is as us) (x : InCallC s s.heap.objs.size (bindL (envOfC qual scope s.heap.objs.size fa cd).kindOf (ps.zip us) fun _ => none) (cellsFrom (s.heap.objs.size + 1) scope.names []) (bindC (envOfC qual scope s.heap.objs.size fa cd).kindOf (ps.zip us) fun _ => none) s') :
 c.Rel (newFm f qual scope s.heap.objs.size fa cd) (bindLo ps as fun _ => none) σ (restOf σ s) z s' := by
 refine eA5 (scopeOk_of hs) fun hk hco hgen hps hcl hnd => ?_
 refine eE2 x.toInCall.same fun h₁ tk z1' => ?_; subst z1'
 have hk₁ := x.toInCall.keep
 have cell : ∀ y k, (y, k) ∈ cellsFrom (s.heap.objs.size + 1) scope.names [] -> (Heap.IsCell h₁ k (bindC (envOfC qual scope s.heap.objs.size fa cd).kindOf (ps.zip us) (fun _ => none) y)) /\ s.heap.objs.size < k := fun y k hy =>
  ⟨x.cell y k (lookup_of_mem_nodup (cellsFrom_names scope.names 0 (s.heap.objs.size + 1) [] [] rfl ▸ hnd) hy), x.above y k hy⟩
 refine ⟨R.same, fun a o e => ?_, fun a t mo e => (R.objs a t mo e).keeps hk₁, R.wf, fun a hf => (iA2 ?_ ?_ (fun y k hy => ?_)), (iEA _ x.toInCall.ns (fun y hy => bindLo_local hy is trivial)), fun y k hy => ?_, ⟨?_, fun y k hy => ?_⟩, R.kl⟩
 · unfold restOf at e
   split at e
   · cases e
   · exact (iEA o.slots (hk₁ _ _ e) (fun _ => rfl))
 · unfold restOf; rw [if_pos hf]
 · exact Nat.ne_of_lt (R.foot_lt hf)
 · have := (cell y k hy).2
   have h2 := R.foot_lt hf
   omega
 · obtain ⟨⟨o, ho, hd⟩, _⟩ := cell y k hy
   refine (iEEAA o _ ho hd (bindLo_cell (fun q => ?_) is trivial))
   have nm := cellsFrom_names scope.names 0 (s.heap.objs.size + 1) [] [] rfl
   have : y ∈ (cellsFrom 0 scope.names []).map (·.1) := by rw [nm]; exact Mn (iEA _ hy rfl)
   refine eEA (Mm this) fun p hp z1' => ?_; subst z1'
   exact hcl p hp q
 · show restOf σ s s.heap.objs.size = none
   unfold restOf
   split
   · rfl
   · cases e : s.heap.get? s.heap.objs.size with
     | none => rfl
     | some o => exact absurd (Heap.lt_size e) (Nat.lt_irrefl _)
 · refine ⟨?_, fun q => ?_⟩
   · unfold restOf
     split
     · rfl
     · cases e : s.heap.get? k with
       | none => rfl
       | some o => exact absurd (Nat.lt_trans (cell y k hy).2 (Heap.lt_size e)) (Nat.lt_irrefl _)
   · have h3 := (cell y k hy).2
     rw [show k = s.heap.objs.size from q] at h3
     exact Nat.lt_irrefl _ h3
def WFn (c : Cx) (i : Ix) (a : Nat) (as : List MV) (ρ : Lo) (Q : MV -> Hp -> Prop) (X : EX) (σ : Hp) : Prop :=
 ∀ us, All2 MV.Is as us -> ∀ f fr z s, f.env.scope = i.sc -> (i.hn = true -> f.A.handled = none) -> Good c i.n f fr -> c.Rel f ρ σ fr z s ->
  codeAny c.M f.A (.call (.ref a) ⟨us, []⟩) (fun r s' => match r with
   | .ok (.ret v) => ∃ m σ', MV.Is m v /\ c.Rel f ρ σ' fr z s' /\ Q m σ'
   | .ok _ => False
   | .error e => XPost c f fr z (X.at ρ) e s') s
theorem Wf {c : Cx} {i : Ix} {a : Nat} {as : List MV} {ρ : Lo} {Q : MV -> Hp -> Prop} {X : EX} {σ : Hp} (h : WFn c i a as ρ Q X σ) : WCall c i (.ref a) as ρ Q X σ := fun v us iv iu f fr z s hsc hh g R => by
 cases iv
 refine wpAny_call (codeAny_mono (h us iu f fr z s hsc hh g R) fun r s' q => ?_)
 rcases r with e | (_ | _ | _ | v) <;> exact q
theorem WFn.fn {c : Cx} {n : Nat} {hn : Bool} {sc : Scope} {a : Nat} {ps : List Str} {body : List Stmt} {scope : Scope} (F : FnAt c a ps body scope) {as : List MV} {ρ : Lo} {Q : MV -> Hp -> Prop} {X : EX} {σ : Hp} (hl : as.length = ps.length)
 (h : WSs c ⟨n, hn, scope⟩ body (bindLo ps as fun _ => none) (fun m _ σ' => Q m.val σ') noSX σ) : WFn c ⟨n + 1, hn, sc⟩ a as ρ Q X σ := fun us iu f fr z s hsc hh g R => by
 obtain ⟨⟨oc, od, osl, name, qual, params, dV, kV, doc, pm, an, cdv, ct, ho, hcd, hb⟩, hs⟩ := F
 refine eA5 (scopeOk_of hs) fun hk hco hgen hps hcl hnd => ?_
 have hroom : f.A.depth < recursionLimit := by have := g.room; omega
 refine codeAny_call_function hroom (g.inK R _ _ ho) rfl hco hgen rfl (codeRec_of (g.inK R) hcd) ?_
 rw [hb us (by rw [<- iu.length, hl])]
 refine wpAny_pure ?_
 refine wpAny_newFunctionEnv_cells hk (fun x hx => ?_) fun env' he s' x => ?_
 · have hx' := hps x.1 (List.of_mem_zip hx).1
   exact hx'.imp id fun q => ⟨q, cellsFrom_some _ _ _ (.inl q)⟩
 · subst he
   refine ⟨(g.at R).nolimit.keeps x.toInCall.keep, codeAny_func ?_⟩
   have G' := newFm_good g R (qual := qual) (fa := a) (cd := cdv) hs
   have R' := newFm_rel g R (qual := qual) (fa := a) (cd := cdv) hs iu x
   refine wuse6 (h (newFm f qual scope s.heap.objs.size a cdv) _ z s' rfl (fun q => hh q) G' R') (fun fl s'' m ρ' σ' is R'' q => ?_) fun e s'' z9 => by obtain ⟨_, _, _, _, _, _, _, q⟩ := z9; exact q.elim
   refine (iEEAA m.val σ' ?_ (R.back (f' := newFm f qual scope s.heap.objs.size a cdv) g rfl rfl R'') q)
   cases m with
   | ret v => refine eEA is fun u z1' z2' => ?_; clear is; have is := z2'; clear z2'; subst z1'; exact is
   | next => cases is; rfl
   | brk => cases is; rfl
   | cont => cases is; rfl
end Mine
open PySem PySem.W PyProof.Rows
namespace Mine
def allNews (h : Heap) (L : Nat) : List (Nat × Obj) := (List.range h.objs.size).filterMap fun a => if a = L then none else (h.get? a).map fun o => (a, o)
theorem mem_allNews {h : Heap} {L a : Nat} {o : Obj} : (a, o) ∈ allNews h L ↔ a ≠ L /\ h.get? a = some o := by
 unfold allNews
 rw [List.mem_filterMap]
 constructor
 · rintro ⟨b, _, hb⟩
   split at hb
   · cases hb
   · rename_i hne
     refine eEA (Option.map_eq_some_iff.mp hb) fun o' ho' e => ?_
     cases e
     exact ⟨hne, ho'⟩
 · rintro ⟨hne, ho⟩
   exact (iEA a (List.mem_range.mpr (Heap.lt_size ho)) (by rw [if_neg hne, ho]; rfl))
theorem empty_get (a : Nat) : ({} : Heap).get? a = none := by
 cases e : ({} : Heap).get? a with
 | none => rfl
 | some o => exact absurd (Heap.lt_size e) (Nat.not_lt_zero _)
theorem news_all (h : Heap) (L : Nat) : News {} L h (allNews h L) := fun p hp => by
 obtain ⟨a, o⟩ := p
 obtain ⟨h1, h2⟩ := mem_allNews.mp hp
 exact (iA2 h2 h1 (empty_get a))
theorem fr_all {h : Heap} {L : Nat} {m : Str -> Option Value} (hn : h.Ns L m) : Fr {} L h m := ⟨hn, fun b o e => (by rw [empty_get] at e; cases e), Nat.zero_le _⟩
theorem allNews_split {h : Heap} {L d : Nat} {o : Obj} (ho : h.get? d = some o) (hd : d ≠ L) : ∃ pre post, allNews h L = pre ++ (d, o) :: post /\ (∀ p ∈ pre, p.1 ≠ d) /\ ∀ p ∈ post, p.1 ≠ d := by
 have nd : ∀ (l : List Nat), l.Nodup -> ((l.filterMap fun a => if a = L then none else (h.get? a).map fun o => (a, o)).map (·.1)).Nodup := by
  intro l
  induction l with
  | nil => intro _; simp
  | cons b r ih =>
   intro hn
   simp only [List.nodup_cons] at hn
   rw [List.filterMap_cons]
   split
   · exact ih hn.2
   · rename_i p hp
     rw [List.map_cons, List.nodup_cons]
     refine ⟨fun hm => hn.1 ?_, ih hn.2⟩
     split at hp
     · cases hp
     · refine eEA (Option.map_eq_some_iff.mp hp) fun o' _ e => ?_
       cases e
       refine eEA (Mm hm) fun q hq e2 => ?_
       refine eEA (List.mem_filterMap.mp hq) fun b' hb' hq' => ?_
       split at hq'
       · cases hq'
       · refine eEA (Option.map_eq_some_iff.mp hq') fun o2 _ e3 => ?_
         cases e3
         dsimp only at e2
         subst e2
         exact hb'
 refine eE2 (List.append_of_mem (mem_allNews.mpr ⟨hd, ho⟩)) fun pre post e => ?_
 have hn := nd (List.range h.objs.size) List.nodup_range
 change ((allNews h L).map (·.1)).Nodup at hn
 rw [e, List.map_append, List.map_cons, List.nodup_append] at hn
 refine eA2 hn fun _ h2 h3 => ?_; clear hn
 rw [List.nodup_cons] at h2
 refine (iEEAA pre post e (fun p hp q => ?_) (fun p hp q => ?_))
 · exact h3 p.1 (List.mem_map_of_mem hp) d (.head _) q
 · exact h2.1 (Mn (iEA p hp q))
theorem ns_unique {h : Heap} {L : Nat} {m m' : Str -> Option Value} (a : h.Ns L m) (b : h.Ns L m') : m = m' := by
 refine eEEEAAA a fun o es ep h1 h2 _ h3 => ?_; clear a
 refine eEEEAAA b fun o' es' ep' h1' h2' _ h3' => ?_; clear b
 rw [h1] at h1'
 cases h1'
 rw [h2] at h2'
 cases h2'
 funext x
 rw [<- h3 x, <- h3' x]
theorem Kept.of_news {L : Nat} {h h' : Heap} {m : Str -> Option Value} {D : Nat -> Prop} {news : List (Nat × Obj)} (hn : h.Ns L m) (F' : Fr {} L h' m) (N' : News {} L h' news) (k : ∀ p ∈ allNews h L, ¬ D p.1 -> p ∈ news) : Kept L D h h' :=
 ⟨fun a o nD nL e => (N' _ (k (a, o) (mem_allNews.mpr ⟨nL, e⟩) nD)).1, fun m' hm => by rw [ns_unique hm hn]; exact F'.ns⟩
theorem fields_get {P : Params} {fs : List (Str × MV)} {es : List DictEntry} (h : FieldsAre P fs es) {x : Str} {v : MV} (hv : fs.lookup x = some v) : ∃ u, getL x es = some (some u) /\ v.Is u := by
 unfold getL
 induction h with
 | nil => cases hv
 | @cons p e l m r _ ih =>
  obtain ⟨y, mv⟩ := p
  refine eA2 r fun _ z1' is => ?_; clear r; obtain ⟨t, hk⟩ := z1'
  rw [List.lookup_cons] at hv
  have hk' : e.key.isStr x = (y == x) := by rw [hk]; rfl
  cases q : (x == y) with
  | true =>
   rw [q] at hv; cases hv
   rw [List.find?_cons, hk', show (y == x) = true from by rw [beq_iff_eq] at q ⊢; exact q.symm]
   exact (iEA _ rfl is)
  | false =>
   rw [q] at hv
   refine eEA (ih hv) fun u h1 h2 => ?_
   refine (iEA u ?_ h2)
   rw [List.find?_cons, hk', show (y == x) = false from by rw [beq_eq_false_iff_ne] at q ⊢; exact fun e => q e.symm]
   split at h1
   · rename_i en he; rw [he]; exact h1
   · rename_i he
     split at h1 <;> cases h1
theorem fields_none {P : Params} {fs : List (Str × MV)} {es : List DictEntry} (h : FieldsAre P fs es) {x : Str} (hv : fs.lookup x = none) : getL x es = some none := by
 have key : es.find? (·.key.isStr x) = none /\ es.any (·.refKey) = false := by
  induction h with
  | nil => exact ⟨rfl, rfl⟩
  | @cons p e l m r _ ih =>
   obtain ⟨y, mv⟩ := p
   refine eA2 r fun _ z1' is => ?_; clear r; obtain ⟨t, hk⟩ := z1'
   rw [List.lookup_cons] at hv
   cases q : (x == y) with
   | true => rw [q] at hv; cases hv
   | false =>
    rw [q] at hv
    obtain ⟨h1, h2⟩ := ih hv
    refine ⟨?_, ?_⟩
    · have hk' : e.key.isStr x = (y == x) := by rw [hk]; rfl
      rw [List.find?_cons, hk', show (y == x) = false from by rw [beq_eq_false_iff_ne] at q ⊢; exact fun e => q e.symm]; exact h1
    · rw [List.any_cons, h2, Bool.or_false]
      unfold DictEntry.refKey
      rw [hk]
 unfold getL
 rw [key.1, key.2]; rfl
def putF (x : Str) (v : MV) : List (Str × MV) -> List (Str × MV)
 | [] => [(x, v)]
 | (y, u) :: r => if y = x then (y, v) :: r else (y, u) :: putF x v r
theorem fields_put {P : Params} {fs : List (Str × MV)} {es : List DictEntry} (h : FieldsAre P fs es) {x : Str} {v : MV} {u : Value} {tk : Tok} (is : v.Is u) : FieldsAre P (putF x v fs) (putL x (PyData.keyHash P x) (.str x tk) u es) := by
 induction h with
 | nil => exact .cons (iA2 rfl ⟨tk, rfl⟩ is) .nil
 | @cons p e l m r rs ih =>
  obtain ⟨y, mv⟩ := p
  have hk' : e.key.isStr x = (y == x) := by refine eA2 r fun _ z1' _ => ?_; clear r; obtain ⟨t, hk⟩ := z1'; rw [hk]; rfl
  unfold putF putL
  rw [hk']
  by_cases q : y = x
  · rw [if_pos q, if_pos (beq_iff_eq.mpr q)]
    exact .cons (iA2 r.1 r.2.1 is) rs
  · rw [if_neg q, if_neg (fun z => q (beq_iff_eq.mp z))]
    exact .cons r ih
def MV.plain : MV -> Bool
 | .con _ => false
 | _ => true
theorem MV.handed {v : MV} {u : Value} (hp : v.plain = true) (is : v.Is u) : handedIn u = true := by
 cases v with
 | none => cases is; rfl
 | bool b => cases is; rfl
 | int i => obtain ⟨t, rfl⟩ := is; rfl
 | str x => obtain ⟨t, rfl⟩ := is; rfl
 | ref a => cases is; rfl
 | con c => cases hp
section
variable {c : Cx} {i : Ix} {ρ : Lo} {σ : Hp} {X : EX}
theorem Rel.inst {f : Fm} {fr : Nat -> Option Obj} {z s : Shared} (R : c.Rel f ρ σ fr z s) {a t C : Nat} {fs : List (Str × MV)} (e : σ a = some (t, .inst C fs)) :
 ∃ d es n, a = d + 1 /\ s.heap.get? a = some (instObj C d) /\ s.heap.get? d = some (dictOf es n) /\ FieldsAre c.w.params fs es /\ InstAt s.heap a (instObj C d) C (some (dictOf es n)) := by
 refine eEEEAAA (R.objs a t _ e) fun d es n h1 h2 h3 h4 => ?_
 exact (iE3 d es n (iA4 h1 h2 h3 h4 ⟨h2, rfl, rfl, h3⟩))
theorem WGet.inst {a t C name fs v} {Q : MV -> Hp -> Prop} (e : σ a = some (t, .inst C fs)) (hf : c.fld C name = true) (hv : fs.lookup name = some v) (hp : v.plain = true) (h : Q v σ) : WGet c i (.ref a) name ρ Q X σ := fun u iu f fr z s hsc hh g R => by
 cases iu
 refine eE3 (Rel.inst R e) fun d es n y0' => eA4 y0' fun _ _ _ hfs I => ?_
 refine eEA (fields_get hfs hv) fun u hu is => ?_
 refine eA3 (g.ok.fld C name hf) fun h1 h2 h3 _ => ?_
 exact get_value (g.inK R) I (plainGet_of h1).1 (findObj_own h2 h3 rfl (by rw [lookIn_dict]; exact hu)) (MV.handed hp is) (iEEAA v σ is (R.toks _) h)
theorem WM.inst {a t C name fs fa} {Q : MV × List MV -> Hp -> Prop} (e : σ a = some (t, .inst C fs)) (hm : c.meth C name = some fa) (hv : fs.lookup name = none) (h : Q (.ref fa, [.ref a]) σ) : WM c i (.ref a) name ρ Q X σ := fun u pl iu f fr z s hsc hh g R => by
 cases iu
 refine eE3 (Rel.inst R e) fun d es n y0' => eA4 y0' fun _ _ _ hfs I => ?_
 refine eA3 (g.ok.meth C name fa hm) fun h1 h2 h3 _ => ?_
 refine method_fn (g.inK R) I (plainGet_of h1).1 (plainGet_of h1).2 h2 (beq_iff_eq.mp h3) ?_ (iEEAA (.ref fa, [.ref a]) σ ⟨rfl, .cons rfl .nil⟩ R h)
 show (lookIn name (dictOf es n)).map _ = _
 rw [lookIn_dict, fields_none hfs hv]; rfl
theorem WSet.inst {a t C name fs v} {Q : Unit -> Hp -> Prop} (e : σ a = some (t, .inst C fs)) (hf : c.fld C name = true) (hl : fs.length < 900) (h : Q () (σ.put a t (.inst C (putF name v fs)))) : WSet c i (.ref a) name v ρ Q X σ := fun u w iu iw f fr z s hsc hh g R => by
 cases iu
 refine eE3 (Rel.inst R e) fun d es n y0' => eA4 y0' fun z1' hx hd hfs I => ?_; subst z1'
 refine eA5 (g.ok.fld C name hf) fun h1 h2 h3 h4 h5 h6 => ?_
 refine eEA R.ns fun m hn hm => ?_
 have hdL : d ≠ f.env.locals := (R.apart d (.inr (iE3 _ _ _ e))).2.1
 refine eEEAA (allNews_split hd hdL) fun pre post ea ha hb => ?_
 have N := news_all s.heap f.env.locals
 rw [ea] at N
 have len : ∀ (es : List DictEntry) (tk : Tok), (putL name (PyData.keyHash c.w.params name) (.str name tk) w es).length <= es.length + 1 := by
  intro es tk
  induction es with
  | nil => simp [putL]
  | cons e r ih =>
   unfold putL
   split
   · simp
   · simp only [List.length_cons]; omega
 have el : es.length = fs.length := (All2.length hfs).symm
 refine set_plain (g.inK R) I h4 (osa_dict (s := { s with toks := s.toks + 1 }) (fr_all hn) N (g.inK (R.toks _)) I rfl h5 h6 h2 ?_ ha hb (putName_dict _ _ _ _ _ _) rfl ?_ fun h' F' N' => ?_)
 · show (lookIn name (dictOf es n)).isSome = true
   rw [lookIn_dict]
   cases q : fs.lookup name with
   | none => rw [fields_none hfs q]; rfl
   | some v' => refine eEA (fields_get hfs q) fun u hu _ => ?_; rw [hu]; rfl
 · have := len es (s.toks + 1); show _ <= 1000; have h0 : ({ s with toks := s.toks + 1 } : Shared).toks = s.toks + 1 := rfl; rw [h0]; omega
 · have K' : Kept f.L (· = d) s.heap h' := Kept.of_news hn F' N' fun p hp nd => by
    rw [ea] at hp
    rcases List.mem_append.mp hp with q | q
    · exact List.mem_append_left _ q
    · rcases List.mem_cons.mp q with rfl | q
      · exact absurd rfl nd
      · exact List.mem_append_right _ (.tail _ q)
   refine (iEEAA () _ rfl (R.updI e K' (iE3 d _ _ (iA3 rfl ?_ ((N' (d, _) (List.mem_append_right _ (.head _))).1) (fields_put hfs iw)))) h)
   exact K'.1 _ _ (by show ¬ (d + 1 = d); omega) (R.neL e) hx
end
end Mine
open PySem PySem.W PyProof.Rows
namespace Mine
theorem All2.one {α β : Type} {R : α -> β -> Prop} {a : α} {us : List β} (h : All2 R [a] us) : ∃ u, us = [u] /\ R a u := by
 cases h with | cons r h => cases h; exact (iEA _ rfl r)
theorem All2.two {α β : Type} {R : α -> β -> Prop} {a b : α} {us : List β} (h : All2 R [a, b] us) : ∃ u v, us = [u, v] /\ R a u /\ R b v := by
 cases h with | cons r h => refine eEA h.one fun v z1' r' => ?_; subst z1'; exact (iEEAA _ _ rfl r r')
section
variable {c : Cx} {i : Ix} {ρ : Lo} {σ : Hp} {X : EX}
-- truth
theorem Wb {b} {Q : Bool -> Hp -> Prop} (h : Q b σ) : WTr c i (.bool b) ρ Q X σ := fun v is f fr z s _ _ g R => by cases is; dsimp only; (with_reducible refine wpAny_truthy_bool ?_); exact (iEEAA _ σ rfl R h)
theorem WU.not {m} {Q : MV -> Hp -> Prop} (h : WTr c i m ρ (fun k σ₁ => Q (.bool (!k)) σ₁) X σ) : WU c i .Not m ρ Q X σ := fun v is f fr z s a b g R =>
 not_of (wuse (h v is f fr z s a b g R) (fun k s' k' σ' e R' q => by subst e; exact (iEEAA (.bool _) σ' rfl R' q)) fun _ _ x => x)
theorem WU.neg {n} {Q : MV -> Hp -> Prop} (h : Q (.int (-n)) σ) : WU c i .USub (.int n) ρ Q X σ := fun v is f fr z s a b g R => by
 obtain ⟨t, rfl⟩ := is; dsimp only; (with_reducible refine neg_int ?_); exact (iEEAA (.int (-n)) σ ⟨_, rfl⟩ (R.toks _) h)
-- ints
theorem WB.add {m n} {Q : MV -> Hp -> Prop} (h : Q (.int (m + n)) σ) : WB c i .Add (.int m) (.int n) ρ Q X σ := fun v u iv iu f fr z s _ _ g R => by
 obtain ⟨t, rfl⟩ := iv; obtain ⟨t', rfl⟩ := iu; dsimp only; (with_reducible refine add_int ?_); exact (iEEAA (.int (m + n)) σ ⟨_, rfl⟩ (R.toks _) h)
theorem WI.add {m n} {Q : MV -> Hp -> Prop} (h : Q (.int (m + n)) σ) : WI c i .Add (.int m) (.int n) ρ Q X σ := fun v u iv iu f fr z s _ _ g R => by
 obtain ⟨t, rfl⟩ := iv; obtain ⟨t', rfl⟩ := iu; dsimp only; (with_reducible refine iadd_int ?_); exact (iEEAA (.int (m + n)) σ ⟨_, rfl⟩ (R.toks _) h)
theorem WB.sub {m n} {Q : MV -> Hp -> Prop} (h : Q (.int (m - n)) σ) : WB c i .Sub (.int m) (.int n) ρ Q X σ := fun v u iv iu f fr z s _ _ g R => by
 obtain ⟨t, rfl⟩ := iv; obtain ⟨t', rfl⟩ := iu; dsimp only; (with_reducible refine sub_int ?_); exact (iEEAA (.int (m - n)) σ ⟨_, rfl⟩ (R.toks _) h)
theorem WB.mul {m n} {Q : MV -> Hp -> Prop} (hm : IntMulOk m n) (h : Q (.int (m * n)) σ) : WB c i .Mult (.int m) (.int n) ρ Q X σ := fun v u iv iu f fr z s _ _ g R => by
 obtain ⟨t, rfl⟩ := iv; obtain ⟨t', rfl⟩ := iu; exact mul_int (iEEAA (.int (m * n)) σ ⟨_, rfl⟩ (R.toks _) h) hm
theorem WB.div {m n} {Q : MV -> Hp -> Prop} (h0 : n ≠ 0) (h1 : n.natAbs < 1073741824) (h : Q (.int (m.fdiv n)) σ) : WB c i .FloorDiv (.int m) (.int n) ρ Q X σ := fun v u iv iu f fr z s _ _ g R => by
 obtain ⟨t, rfl⟩ := iv; obtain ⟨t', rfl⟩ := iu; exact floordiv_int h0 (iEEAA (.int (m.fdiv n)) σ ⟨_, rfl⟩ (R.toks _) h) (.inl (PyProof.noPylong_small h1))
theorem WB.mod {m n} {Q : MV -> Hp -> Prop} (h0 : n ≠ 0) (h : Q (.int (m.fmod n)) σ) : WB c i .Mod (.int m) (.int n) ρ Q X σ := fun v u iv iu f fr z s _ _ g R => by
 obtain ⟨t, rfl⟩ := iv; obtain ⟨t', rfl⟩ := iu; exact PyProof.Rows.mod_int h0 (iEEAA (.int (m.fmod n)) σ ⟨_, rfl⟩ (R.toks _) h)
theorem WC.lt {m n} {Q : MV -> Hp -> Prop} (h : Q (.bool (decide (m < n))) σ) : WC c i .Lt (.int m) (.int n) ρ Q X σ := fun v u iv iu f fr z s _ _ g R => by
 obtain ⟨t, rfl⟩ := iv; obtain ⟨t', rfl⟩ := iu; dsimp only; (with_reducible refine lt_int ?_); exact (iEEAA (.bool _) σ rfl R h)
theorem WC.le {m n} {Q : MV -> Hp -> Prop} (h : Q (.bool (decide (m <= n))) σ) : WC c i .LtE (.int m) (.int n) ρ Q X σ := fun v u iv iu f fr z s _ _ g R => by
 obtain ⟨t, rfl⟩ := iv; obtain ⟨t', rfl⟩ := iu; dsimp only; (with_reducible refine PyProof.Rows.le_int ?_); exact (iEEAA (.bool _) σ rfl R h)
theorem WC.gt {m n} {Q : MV -> Hp -> Prop} (h : Q (.bool (decide (n < m))) σ) : WC c i .Gt (.int m) (.int n) ρ Q X σ := fun v u iv iu f fr z s _ _ g R => by
 obtain ⟨t, rfl⟩ := iv; obtain ⟨t', rfl⟩ := iu; dsimp only; (with_reducible refine PyProof.Rows.gt_int ?_); exact (iEEAA (.bool _) σ rfl R h)
theorem WC.eqI {m n} {Q : MV -> Hp -> Prop} (h : Q (.bool (m == n)) σ) : WC c i .Eq (.int m) (.int n) ρ Q X σ := fun v u iv iu f fr z s _ _ g R => by
 obtain ⟨t, rfl⟩ := iv; obtain ⟨t', rfl⟩ := iu; dsimp only; (with_reducible refine PyProof.Rows.eq_int ?_); exact (iEEAA (.bool _) σ rfl R h)
theorem WC.eqS {x y} {Q : MV -> Hp -> Prop} (h : Q (.bool (x == y)) σ) : WC c i .Eq (.str x) (.str y) ρ Q X σ := fun v u iv iu f fr z s _ _ g R => by
 obtain ⟨t, rfl⟩ := iv; obtain ⟨t', rfl⟩ := iu; dsimp only; (with_reducible refine PyProof.Rows.eq_str ?_); exact (iEEAA (.bool _) σ rfl R h)
theorem WC.neS {x y} {Q : MV -> Hp -> Prop} (h : Q (.bool (x != y)) σ) : WC c i .NotEq (.str x) (.str y) ρ Q X σ := fun v u iv iu f fr z s _ _ g R => by
 obtain ⟨t, rfl⟩ := iv; obtain ⟨t', rfl⟩ := iu; dsimp only; (with_reducible refine PyProof.Rows.ne_str ?_); exact (iEEAA (.bool _) σ rfl R h)
theorem WC.neB {x y} {Q : MV -> Hp -> Prop} (h : Q (.bool (x != y)) σ) : WC c i .NotEq (.bool x) (.bool y) ρ Q X σ := fun v u iv iu f fr z s _ _ g R => by
 cases iv; cases iu; dsimp only; (with_reducible refine PyProof.Rows.ne_bool ?_); exact (iEEAA (.bool _) σ rfl R h)
def MV.isNone : MV -> Bool
 | .none => true
 | _ => false
theorem isNone_of {m : MV} {v : Value} (hc : ∀ k, m ≠ .con k) (is : m.Is v) : (v == .none) = m.isNone := by
 cases m with
 | none => cases is; rfl
 | bool b => cases is; rfl
 | int n => obtain ⟨t, rfl⟩ := is; rfl
 | str x => obtain ⟨t, rfl⟩ := is; rfl
 | ref a => cases is; rfl
 | con k => exact absurd rfl (hc k)
theorem WC.isNone {m} {Q : MV -> Hp -> Prop} (hp : m.plain = true) (h : Q (.bool m.isNone) σ) : WC c i .Is m .none ρ Q X σ := fun v u iv iu f fr z s _ _ g R => by
 cases iu; refine is_none_gen (iEEAA (.bool m.isNone) σ ?_ R h); rw [isNone_of (by intro k e; subst e; cases hp) iv]; rfl
theorem WC.isNotNone {m} {Q : MV -> Hp -> Prop} (hp : m.plain = true) (h : Q (.bool (!m.isNone)) σ) : WC c i .IsNot m .none ρ Q X σ := fun v u iv iu f fr z s _ _ g R => by
 cases iu; refine isnot_none_gen (iEEAA (.bool (!m.isNone)) σ ?_ R h); rw [isNone_of (by intro k e; subst e; cases hp) iv]; rfl
theorem WB.addS {x y} {Q : MV -> Hp -> Prop} (hl : x.length + y.length <= sizeLine) (h : Q (.str (x ++ y)) σ) : WB c i .Add (.str x) (.str y) ρ Q X σ := fun v u iv iu f fr z s _ _ g R => by
 obtain ⟨t, rfl⟩ := iv; obtain ⟨t', rfl⟩ := iu; exact PyProof.Rows.add_str (fun t'' tk => (iEEAA (.str (x ++ y)) σ ⟨_, rfl⟩ (R.toks _) h)) hl
-- what a thing is
inductive KindOf (σ : Hp) : MV -> Value -> Prop
 | none : KindOf σ .none (.type "NoneType")
 | bool {b} : KindOf σ (.bool b) (.type "bool")
 | int {n} : KindOf σ (.int n) (.type "int")
 | str {x} : KindOf σ (.str x) (.type "str")
 | list {a t xs} : σ a = some (t, .list xs) -> KindOf σ (.ref a) (.type "list")
 | tuple {a t xs} : σ a = some (t, .tuple xs) -> KindOf σ (.ref a) (.type "tuple")
theorem WCall.isinstance {m t cv b} {Q : MV -> Hp -> Prop} (k : KindOf σ m t) (e : kitOne c.K t cv = some b) (h : Q (.bool b) σ) : WCall c i (.con (.builtin "isinstance")) [m, .con cv] ρ Q X σ := fun v us iv iu f fr z s _ _ g R => by
 cases iv
 refine eEEAA iu.two fun u1 u2 z1' i1 i2 => ?_; subst z1'
 cases i2
 have fin : ∀ tk, (fun (a : Value) s' => ∃ m σ', MV.Is m a /\ c.Rel f ρ σ' fr z s' /\ Q m σ') (.bool b) { s with toks := tk } := fun tk => (iEEAA (.bool b) σ rfl (R.toks _) h)
 cases k with
 | none => cases i1; exact kia_one kitx_none (g.inK R) trivial e (by intro q; cases q) fin
 | bool => cases i1; exact kia_one kitx_bool (g.inK R) trivial e (by intro q; cases q) fin
 | int => obtain ⟨t, rfl⟩ := i1; exact kia_one kitx_int (g.inK R) trivial e (by intro q; cases q) fin
 | str => obtain ⟨t, rfl⟩ := i1; exact kia_one kitx_str (g.inK R) trivial e (by intro q; cases q) fin
 | list he => cases i1; refine eEEA (R.objs _ _ _ he) fun its n ho _ => ?_; exact kia_one kitx_list (g.inK R) (iEA _ ho rfl) e (by intro q; cases q) fin
 | tuple he => cases i1; refine eEEA (R.objs _ _ _ he) fun its n ho _ => ?_; exact kia_one kitx_tuple (g.inK R) (iEA _ ho rfl) e (by intro q; cases q) fin
end
end Mine
open PySem PySem.W PyProof.Rows
namespace Mine
def Fresh (σ : Hp) (b : Nat) : Prop := ∀ a p, σ a = some p -> a < b
theorem Rel.withA {c : Cx} {f : Fm} {A' : Around} {ρ : Lo} {σ : Hp} {fr : Nat -> Option Obj} {z s : Shared} (R : c.Rel f ρ σ fr z s) : c.Rel { f with A := A' } ρ σ fr z s := ⟨R.same, R.keep, R.objs, R.wf, R.apart, R.ns, R.cel, R.frame, R.kl⟩
theorem Rel.ofA {c : Cx} {f : Fm} {A' : Around} {ρ : Lo} {σ : Hp} {fr : Nat -> Option Obj} {z s : Shared} (R : c.Rel { f with A := A' } ρ σ fr z s) : c.Rel f ρ σ fr z s := ⟨R.same, R.keep, R.objs, R.wf, R.apart, R.ns, R.cel, R.frame, R.kl⟩
theorem XPost.ofA {c : Cx} {f : Fm} {A' : Around} {fr : Nat -> Option Obj} {z : Shared} {X : SX} {v : Value} {s : Shared} (h : XPost c { f with A := A' } fr z X v s) : XPost c f fr z X v s := by
 refine eE5 h fun b C e ρ' σ' y0' => eA2 y0' fun h1 h2 h3 => ?_; clear h
 refine (iE5 b C e ρ' σ' (iA2 h1 ?_ h3))
 cases b with
 | true => refine eEEA h2 fun h vs r q => ?_; clear h2; exact (iEEA h vs r.ofA q)
 | false => refine eE3 h2 fun h t vs y0' => eA1 y0' fun r q => ?_; clear h2; exact (iE3 h t vs ⟨r.ofA, q⟩)
section
variable {c : Cx} {n : Nat} {hn : Bool} {sc : Scope} {ρ : Lo} {σ : Hp} {X : EX}
theorem WFn.make {C fI : Nat} {as : List MV} {Q : MV -> Hp -> Prop} (t : Nat) (hi : c.init C = some fI)
 (h : ∀ b, Fresh σ b -> σ b = none -> WFn c ⟨n, hn, sc⟩ fI (.ref b :: as) ρ (fun r σ' => r = .none /\ Q (.ref b) σ') X (σ.put b t (.inst C []))) : WFn c ⟨n + 1, hn, sc⟩ C as ρ Q X σ := fun us iu f fr z s hsc hh g R => by
 refine eA3 (g.ok.init C fI hi) fun h1 h2 h3 h4 => ?_
 obtain ⟨hp, gens, d, tk, os⟩ := s
 refine make_core (makes_of (g.inK R) h1) (looks_findIn (g.inK R) h2) (fun self => bind_fn (g.inK R) self (beq_iff_eq.mp h3)) (.inl rfl) ?_
 have k : ∀ b o, hp.get? b = some o -> ((hp.push emptyDict).push (instObj C hp.objs.size)).get? b = some o := fun b o e => Heap.get?_push_of_some _ (Heap.get?_push_of_some _ e)
 have hx : ((hp.push emptyDict).push (instObj C hp.objs.size)).get? (hp.objs.size + 1) = some (instObj C hp.objs.size) := by heap_get
 have hd : ((hp.push emptyDict).push (instObj C hp.objs.size)).get? hp.objs.size = some emptyDict := by heap_get
 have fresh : Fresh σ (hp.objs.size + 1) := fun a p e => Nat.lt_succ_of_lt (R.some_lt e)
 have R₁ : c.Rel f ρ (σ.put (hp.objs.size + 1) t (.inst C [])) fr z ⟨(hp.push emptyDict).push (instObj C hp.objs.size), gens, d, tk, os⟩ :=
  R.alloc (tk := tk) t (.of_grown k) (Nat.le_succ _) (fun _ => Nat.lt_succ_self _) (iE3 hp.objs.size ([]) 0 (iA3 rfl hx hd (.nil)))
 have G₁ : Good c n { f with A := f.A.under (.builtin "type.__call__" ⟨.ref C :: us, []⟩) } fr := by
  exact {
   ok := g.ok, base := g.base, apart := g.apart, K := g.K, top := g.top, kind := g.kind, globals := g.globals, celled := g.celled, cellk := g.cellk, cellnd := g.cellnd, builtins := g.builtins
   room := by have := g.room; show f.A.depth + 1 + 2 * n < recursionLimit; dsimp only at this; omega
   units := by have := g.units; show f.A.units + 1 + 40 * n < cLine; dsimp only at this; omega
   frames := g.frames, topk := g.topk, low := g.low, slots := g.slots, topL := g.topL, slotIn := g.slotIn, home := g.home, outer := g.outer }
 have key := h (hp.objs.size + 1) fresh (by
  cases e : σ (hp.objs.size + 1) with
  | none => rfl
  | some p => exact absurd (R.some_lt e) (by show ¬ (hp.objs.size + 1 < hp.objs.size); omega)) (.ref (hp.objs.size + 1) :: us) (.cons rfl iu) { f with A := f.A.under (.builtin "type.__call__" ⟨.ref C :: us, []⟩) } fr z _ hsc hh G₁ R₁.withA
 refine codeAny_mono key fun r s' q => ?_
 rcases r with e | (_ | _ | _ | v)
 · exact XPost.ofA q
 · exact q
 · exact q
 · exact q
 · refine eEEAAA q fun m σ' is R' z1' hq => ?_; clear q; subst z1'
   cases is
   exact ⟨rfl, .ref (hp.objs.size + 1), σ', rfl, R'.ofA, hq⟩
end
end Mine
open PySem PySem.W PyProof.Rows
namespace Mine
section
variable {κ : Type} [DecidableEq κ]
def getK (es : List (κ × MV)) (k : κ) : Option MV := (es.find? fun p => decide (p.1 = k)).map (·.2)
def putK (es : List (κ × MV)) (k : κ) (v : MV) : List (κ × MV) := if es.any (fun p => decide (p.1 = k)) then es.map (fun p => if p.1 = k then (p.1, v) else p) else es ++ [(k, v)]
def delK (es : List (κ × MV)) (k : κ) : List (κ × MV) := es.filter fun p => decide (p.1 ≠ k)
abbrev PR (p : κ × MV) (q : κ × Value) : Prop := p.1 = q.1 /\ p.2.Is q.2
theorem getK_some {es : List (κ × MV)} {kvs : List (κ × Value)} (h : All2 PR es kvs) {k : κ} {v : MV} (e : getK es k = some v) : ∃ u, valueAt kvs k = some u /\ v.Is u := by
 unfold getK at e
 unfold valueAt
 induction h with
 | nil => cases e
 | @cons p q l m r _ ih =>
  rw [List.find?_cons] at e ⊢
  rw [<- r.1]
  by_cases hk : p.1 = k
  · rw [decide_eq_true hk] at e ⊢; cases e; exact (iEA _ rfl r.2)
  · rw [decide_eq_false hk] at e ⊢; exact ih e
theorem getK_none {es : List (κ × MV)} {kvs : List (κ × Value)} (h : All2 PR es kvs) {k : κ} (e : getK es k = none) : valueAt kvs k = none := by
 unfold getK at e
 unfold valueAt
 induction h with
 | nil => rfl
 | @cons p q l m r _ ih =>
  rw [List.find?_cons] at e ⊢
  rw [<- r.1]
  by_cases hk : p.1 = k
  · rw [decide_eq_true hk] at e; cases e
  · rw [decide_eq_false hk] at e ⊢; exact ih e
theorem getK_isSome {es : List (κ × MV)} {kvs : List (κ × Value)} (h : All2 PR es kvs) (k : κ) : (valueAt kvs k).isSome = (getK es k).isSome := by
 cases e : getK es k with
 | none => rw [getK_none h e]; rfl
 | some v => refine eEA (getK_some h e) fun u hu _ => ?_; rw [hu]; rfl
theorem putK_all {es : List (κ × MV)} {kvs : List (κ × Value)} (h : All2 PR es kvs) {k : κ} {v : MV} {u : Value} (is : v.Is u) : All2 PR (putK es k v) (stored kvs k u) := by
 have an : es.any (fun p => decide (p.1 = k)) = kvs.any (fun p => decide (p.1 = k)) := by
  induction h with
  | nil => rfl
  | cons r _ ih => rw [List.any_cons, List.any_cons, ih, r.1]
 unfold putK stored
 rw [an]
 split
 · rename_i hh
   clear an hh
   induction h with
   | nil => exact .nil
   | @cons p q l m r _ ih =>
    rw [List.map_cons, List.map_cons]
    refine .cons ?_ ih
    rw [<- r.1]
    by_cases hk : p.1 = k
    · rw [if_pos hk, if_pos hk]; exact ⟨rfl, is⟩
    · rw [if_neg hk, if_neg hk]; exact r
 · exact h.append (.cons ⟨rfl, is⟩ .nil)
theorem delK_all {es : List (κ × MV)} {kvs : List (κ × Value)} (h : All2 PR es kvs) (k : κ) : All2 PR (delK es k) (without kvs k) := by
 unfold delK without
 induction h with
 | nil => exact .nil
 | @cons p q l m r _ ih =>
  rw [List.filter_cons, List.filter_cons, <- r.1]
  split
  · exact .cons r ih
  · exact ih
end
abbrev NoSlice (sl : Expr) : Prop := ∀ o i, subscripted sl false o i = operate [o, i] (getItem o i)
def ListAt (σ : Hp) (a : Nat) (xs : List MV) : Prop := ∃ t, σ a = some (t, .list xs) ∨ ∃ o, σ a = some (t, .klist xs o)
theorem ListAt.own {σ : Hp} {a t : Nat} {xs : List MV} (h : σ a = some (t, .list xs)) : ListAt σ a xs := ⟨t, .inl h⟩
section
variable {c : Cx} {i : Ix} {ρ : Lo} {σ : Hp} {X : EX}
theorem Rel.isList {f : Fm} {fr : Nat -> Option Obj} {z s : Shared} (R : c.Rel f ρ σ fr z s) {a : Nat} {xs : List MV} (h : ListAt σ a xs) : ∃ its, s.heap.IsList a its /\ All2 MV.Is xs its.toList := by
 obtain ⟨t, h | ⟨o, h⟩⟩ := h
 · refine eEEA (R.objs _ _ _ h) fun its n ho r => ?_; exact (iEA its ⟨_, ho, rfl, n, rfl⟩ r)
 · refine eA2 (R.objs _ _ _ h) fun ho hc y0' => eE2 y0' fun its n y1' => eA1 y1' fun hd r => ?_; exact (iEA its ⟨_, ho, hc, n, hd⟩ r)
theorem Rel.fresh {f : Fm} {fr : Nat -> Option Obj} {z s : Shared} (R : c.Rel f ρ σ fr z s) : Fresh σ s.heap.objs.size := fun a p e => R.some_lt e
theorem Fresh.none {σ : Hp} {b : Nat} (h : Fresh σ b) : σ b = Option.none := by
 cases e : σ b with
 | none => rfl
 | some p => exact absurd (h b p e) (Nat.lt_irrefl _)
theorem grows (h : Heap) (o : Obj) : ∀ a o', h.get? a = some o' -> (h.push o).get? a = some o' := fun a o' e => Heap.get?_push_of_some _ e
theorem size_ok {n : Nat} (h : n <= 1000000) : n <= sizeLine := by rw [sizeLine_eq]; omega
theorem WE.list {es pos} {Q : MV -> Hp -> Prop} (t : Nat) (h : WEs c i pos es ρ (fun vs σ₁ => vs.length <= 1000000 /\ ∀ b, Fresh σ₁ b -> Q (.ref b) (σ₁.put b t (.list vs))) X σ) : WE c i (.List es pos) ρ Q X σ := fun f fr z s a b g R =>
 List_ (wuse (h f fr z s a b g R) (fun us s₁ vs σ₁ is R₁ q9 => wpAny_newList (by
  refine (iEEAA (.ref s₁.heap.objs.size) _ rfl (R₁.alloc (mo := .list vs) (tk := s₁.toks) t (.of_grown (grows _ _)) (Nat.le_refl _) (fun q => by cases q) (iEEA us.toArray 0 (Heap.get?_push_size _ rfl) (by simpa using is))) (q9.2 _ R₁.fresh))) (size_ok (by rw [<- is.length]; exact q9.1))) fun _ _ x => x)
theorem WE.tuple {es k pos} {Q : MV -> Hp -> Prop} (t : Nat) (h : WEs c i pos es ρ (fun vs σ₁ => vs.length <= 1000000 /\ ∀ b, Fresh σ₁ b -> Q (.ref b) (σ₁.put b t (.tuple vs))) X σ) : WE c i (.Tuple es k pos) ρ Q X σ := fun f fr z s a b g R =>
 Tuple_ (wuse (h f fr z s a b g R) (fun us s₁ vs σ₁ is R₁ q9 => wpAny_newTuple (by
  refine (iEEAA (.ref s₁.heap.objs.size) _ rfl (R₁.alloc (mo := .tuple vs) (tk := s₁.toks) t (.of_grown (grows _ _)) (Nat.le_refl _) (fun q => by cases q) (iEEA us.toArray 0 (Heap.get?_push_size _ rfl) (by simpa using is))) (q9.2 _ R₁.fresh))) (size_ok (by rw [<- is.length]; exact q9.1))) fun _ _ x => x)
theorem Good.modules {n : Nat} {f : Fm} {fr : Nat -> Option Obj} (g : Good c n f fr) {z s : Shared} (R : c.Rel f ρ σ fr z s) {b : Nat} (h : s.heap.objs.size <= b) : (b == sysModules) = false := by
 have h1 := modules_low (g.at R).nolimit
 rw [beq_eq_false_iff_ne]
 intro q
 rw [q] at h
 exact absurd (Nat.lt_of_lt_of_le h1 h) (Nat.lt_irrefl _)
theorem keyIs_new {κ : Type} [DecidableEq κ] (knd : KeyKind c.prog c.w κ) (h : Heap) : KeyIs knd ({ cls := .type "dict", data := .dict #[] } : Obj) ([] : List (κ × MV)) := by
 refine eEA (Heap.dictOf_iff.mp (Heap.DictOf.new (knd := knd) h)) fun o ho hd => ?_
 rw [Heap.get?_push_size _ rfl] at ho
 exact (iEA ([]) ((Oi ho) ▸ hd) (.nil))
theorem WE.sdict {pos} {Q : MV -> Hp -> Prop} (t : Nat) (h : ∀ b, Fresh σ b -> Q (.ref b) (σ.put b t (.sdict []))) : WE c i (.Dict [] [] pos) ρ Q X σ := fun f fr z s a b g R =>
 wpAny_Dict_empty (iEEAA (.ref s.heap.objs.size) _ rfl (R.alloc (mo := .sdict []) (tk := s.toks) t (.of_grown (grows _ _)) (Nat.le_refl _) (fun q => by cases q) (iAEA (g.modules R (Nat.le_refl _)) _ (Heap.get?_push_size _ rfl) (keyIs_new _ s.heap))) (h _ R.fresh))
theorem WSub.list {value slice a k xs v} {Q : MV -> Hp -> Prop} (hs : NoSlice slice) (hl : ListAt σ a xs) (h0 : 0 <= k) (h1 : k < 2 ^ 63) (hx : xs[k.toNat]? = some v) (h : Q v σ) : WSub c i value slice (.ref a) (.int k) ρ Q X σ := fun v' u iv iu f fr z s _ _ g R => by
 cases iv; obtain ⟨t, rfl⟩ := iu
 refine eEA (R.isList hl) fun its hi r => ?_
 refine eEA (r.get hx) fun x hx' is => ?_
 exact tail_any hi.typeIs slot_list_getitem.lookup (wpAny_getItem_list hi h0 h1 (by simpa using hx') (iEEAA v σ is R h)) (hs _ _)
theorem WCall.lenList {a xs} {Q : MV -> Hp -> Prop} (hl : ListAt σ a xs) (hz : xs.length <= 1000000) (h : Q (.int xs.length) σ) : WCall c i (.con (.builtin "len")) [.ref a] ρ Q X σ := fun v us iv iu f fr z s _ _ g R => by
 cases iv
 refine eEA iu.one fun u z1' i1 => ?_; subst z1'
 cases i1
 refine eEA (R.isList hl) fun its hi r => ?_
 have e : its.size = xs.length := by rw [r.length]; simp
 refine Calls.call_len_list hi (by rw [e]; omega) (iEEAA (.int xs.length) σ ⟨_, by rw [e]⟩ (R.toks _) h)
-- changing a list
theorem WPut.list {a t : Nat} {k : Int} {xs : List MV} {v : MV} {Q : Unit -> Hp -> Prop} (hl : σ a = some (t, .list xs)) (h0 : 0 <= k) (h1 : k < xs.length) (hz : xs.length <= 1000000) (h : Q () (σ.put a t (.list (xs.set k.toNat v)))) : WPut c i (.ref a) (.int k) v ρ Q X σ := fun v' y u iv iy iu f fr z s _ _ g R => by
 cases iv; obtain ⟨tk, rfl⟩ := iy
 refine eEEA (R.objs _ _ _ hl) fun its n ho r => ?_
 have e : its.size = xs.length := by rw [r.length]; simp
 refine ki_setAt ho h0 (by omega) (by rw [e]; exact h1) (iEEAA () _ rfl (R.upd (t' := t) (mo' := .list (xs.set k.toNat v)) (tk := s.toks) hl rfl rfl (.of_same (Heap.SameBut.update ..) (R.neL hl)) (iEEA (its.setIfInBounds k.toNat u) _ (PySem.IsL.update ho _) ?_)) h)
 rw [Array.toList_setIfInBounds]
 exact r.set iu _
theorem WM.listAppend {a t xs} {Q : MV × List MV -> Hp -> Prop} (hl : σ a = some (t, .list xs)) (h : Q (.con (.builtin "list.append"), [.ref a]) σ) : WM c i (.ref a) "append" ρ Q X σ := fun v pl iv f fr z s _ _ g R => by
 cases iv
 refine eEEA (R.objs _ _ _ hl) fun its n ho r => ?_
 exact getMethod_builtin (T := "list") (iEA _ ho rfl) PySem.F.plainAttrs_list PySem.F.slot_list_append PySem.F.type_list_append (fun b e => by cases e; exact (iEA _ ho rfl)) (iEEAA (.con (.builtin "list.append"), [.ref a]) σ ⟨rfl, .cons rfl .nil⟩ R h)
theorem WCall.append {a t : Nat} {xs : List MV} {v : MV} {Q : MV -> Hp -> Prop} (hl : σ a = some (t, .list xs)) (hz : xs.length <= 1000000) (h : Q .none (σ.put a t (.list (xs ++ [v])))) : WCall c i (.con (.builtin "list.append")) [.ref a, v] ρ Q X σ := fun v' us iv iu f fr z s _ _ g R => by
 cases iv
 refine eEEAA iu.two fun u1 u2 z1' i1 i2 => ?_; subst z1'
 cases i1
 refine eEEA (R.objs _ _ _ hl) fun its n ho r => ?_
 have e : its.size = xs.length := by rw [r.length]; simp
 refine append_at ho (fun h' hs ho' => (iEEAA (.none) _ rfl (R.upd (t' := t) (mo' := .list (xs ++ [v])) (tk := s.toks) hl rfl rfl (.of_same hs (R.neL hl)) (iEEA _ _ ho' ?_)) h)) (size_ok (by rw [e]; exact hz))
 rw [Array.toList_push]
 exact r.append (.cons i2 .nil)
-- dicts by texts
theorem Rel.sdict {f : Fm} {fr : Nat -> Option Obj} {z s : Shared} (R : c.Rel f ρ σ fr z s) {a t : Nat} {es : List (Str × MV)} (h : σ a = some (t, .sdict es)) : (a == sysModules) = false /\ ∃ kvs, s.heap.DictOf (PySem.strKind c.prog c.w) a kvs /\ All2 PR es kvs := by
 refine eA1 (R.objs _ _ _ h) fun l y0' => eE1 y0' fun o y1' => eA1 y1' fun ho y2' => eE1 y2' fun kvs y3' => eA1 y3' fun hd r => ?_
 exact (iAEA l kvs (Heap.dictOf_iff.mpr (iEA o ho hd)) r)
theorem Rel.idict {f : Fm} {fr : Nat -> Option Obj} {z s : Shared} (R : c.Rel f ρ σ fr z s) {a t ep : Nat} {es : List (Int × MV)} (h : σ a = some (t, .idict es ep)) : (a == sysModules) = false /\ ∃ kvs, s.heap.DictOf (PySem.intKind c.prog c.w) a kvs /\ s.heap.DictAt (PySem.intKind c.prog c.w) a kvs ep /\ All2 PR es kvs := by
 refine eA1 (R.objs _ _ _ h) fun l y0' => eE1 y0' fun o y1' => eA2 y1' fun ho z1' y2' => eE1 y2' fun q hq => ?_; obtain ⟨kvs, hd, r⟩ := z1'
 have hk := Heap.dictOf_iff.mpr (iEA o ho hd)
 refine ⟨l, kvs, hk, ?_, r⟩
 refine eEEEAAA hk.dictAt fun ep' o' es' h1 h2 h3 h4 => ?_
 obtain rfl : o = o' := Oi (ho.symm.trans h1)
 rw [hq] at h3
 cases h3
 exact (iEEAAA o q ho h2 hq h4)
theorem WC.inS {a t es k} {Q : MV -> Hp -> Prop} (hd : σ a = some (t, .sdict es)) (h : Q (.bool (getK es k).isSome) σ) : WC c i .In (.str k) (.ref a) ρ Q X σ := fun v u iv iu f fr z s _ _ g R => by
 obtain ⟨tk, rfl⟩ := iv; cases iu
 refine eAEA (Rel.sdict R hd) fun l kvs hk r => ?_
 refine wpAny_in_of (PySem.strKind_is _ _ k tk) l hk.mapOf (iEEAA (.bool _) σ rfl (R.toks _) ?_)
 rw [getK_isSome r]; exact h
theorem WC.notInS {a t es k} {Q : MV -> Hp -> Prop} (hd : σ a = some (t, .sdict es)) (h : Q (.bool (!(getK es k).isSome)) σ) : WC c i .NotIn (.str k) (.ref a) ρ Q X σ := fun v u iv iu f fr z s _ _ g R => by
 obtain ⟨tk, rfl⟩ := iv; cases iu
 refine eAEA (Rel.sdict R hd) fun l kvs hk r => ?_
 refine wpAny_notIn_of (PySem.strKind_is _ _ k tk) l hk.mapOf (iEEAA (.bool _) σ rfl (R.toks _) ?_)
 rw [getK_isSome r]; exact h
theorem WSub.sdict {value slice a t es k v} {Q : MV -> Hp -> Prop} (hs : NoSlice slice) (hd : σ a = some (t, .sdict es)) (hv : getK es k = some v) (h : Q v σ) : WSub c i value slice (.ref a) (.str k) ρ Q X σ := fun v' u iv iu f fr z s _ _ g R => by
 cases iv; obtain ⟨tk, rfl⟩ := iu
 refine eAEA (Rel.sdict R hd) fun l kvs hk r => ?_
 refine eEA (getK_some r hv) fun x hx is => ?_
 exact tail_any hk.typeIs slot_dict_getitem.lookup (wpAny_getItem_of (PySem.strKind_is _ _ k tk) hk.mapOf hx (iEEAA v σ is (R.toks _) h)) (hs _ _)
theorem WPut.sdict {a t : Nat} {es : List (Str × MV)} {k : Str} {v : MV} {Q : Unit -> Hp -> Prop} (hd : σ a = some (t, .sdict es)) (hz : es.length <= 1000000) (h : Q () (σ.put a t (.sdict (putK es k v)))) : WPut c i (.ref a) (.str k) v ρ Q X σ := fun v' y u iv iy iu f fr z s _ _ g R => by
 cases iv; obtain ⟨tk, rfl⟩ := iy
 refine eAEA (Rel.sdict R hd) fun l kvs hk r => ?_
 refine wpAny_setItem_pairs (PySem.strKind_is _ _ k tk) hk (fun h' hk' hs => (iEEAA () _ rfl (R.upd (t' := t) (mo' := .sdict (putK es k v)) hd rfl rfl (.of_same hs (R.neL hd)) ⟨l, ?_⟩) h)) (size_ok (by rw [<- r.length]; exact hz))
 refine eEA (Heap.dictOf_iff.mp hk') fun o ho hd' => ?_
 exact ⟨o, ho, _, hd', putK_all r iu⟩
end
end Mine
open PySem PySem.W PyProof.Rows
namespace Mine
open Classical in
noncomputable def addFr (fr : Nat -> Option Obj) (I : Nat) (o : Obj) : Nat -> Option Obj := fun a => if a = I then some o else fr a
theorem addFr_self {fr : Nat -> Option Obj} {I : Nat} {o : Obj} : addFr fr I o I = some o := by simp [addFr]
theorem addFr_ne {fr : Nat -> Option Obj} {I a : Nat} {o : Obj} (h : a ≠ I) : addFr fr I o a = fr a := by simp [addFr, h]
structure Alien (f : Fm) (σ : Hp) (fr : Nat -> Option Obj) (I : Nat) : Prop where
 fr : fr I = none
 foot : ¬ Foot σ I
 L : I ≠ f.env.locals
 cells : ∀ x k, (x, k) ∈ f.env.cells -> I ≠ k
theorem Good.add {c : Cx} {n : Nat} {f : Fm} {fr : Nat -> Option Obj} (g : Good c n f fr) {I : Nat} {o : Obj} (hI : fr I = none) : Good c n f (addFr fr I o) := by
 have k : ∀ a o', fr a = some o' -> addFr fr I o a = some o' := fun a o' e => by
  rw [addFr_ne (fun q => by subst q; rw [hI] at e; cases e)]; exact e
 exact {
  ok := g.ok, base := fun a o' e => k a o' (g.base a o' e), apart := g.apart, K := g.K, top := g.top, kind := g.kind, globals := g.globals, celled := g.celled, cellk := g.cellk, cellnd := g.cellnd, builtins := g.builtins
  room := g.room, units := g.units, frames := g.frames, topk := g.topk, low := g.low, slots := g.slots
  topL := by
   refine eEAA g.topL fun L h1 h2 h3 => ?_
   exact (iEAA L h1 (h2.imp id fun ⟨h4, o', h5, h6⟩ => (iAEA h4 o' (k _ _ h5) h6)) h3)
  slotIn := fun a ha => let ⟨o', e⟩ := g.slotIn a ha; ⟨o', k _ _ e⟩
  home := g.home
  outer := fun env he => let ⟨h1, L, o', h2, h3, h4, h5⟩ := g.outer env he; (iAEEAAA h1 L o' h2 h3 (k _ _ h4) h5) }
theorem Rel.add {c : Cx} {f : Fm} {ρ : Lo} {σ : Hp} {fr : Nat -> Option Obj} {z s : Shared} (R : c.Rel f ρ σ fr z s) {I : Nat} {o : Obj} (al : Alien f σ fr I) (ho : s.heap.get? I = some o) : c.Rel f ρ σ (addFr fr I o) z s where
 same := R.same
 keep := fun a o' e => by
  by_cases q : a = I
  · subst q; rw [addFr_self] at e; cases e; exact (iEA o.slots ho (fun _ => rfl))
  · rw [addFr_ne q] at e; exact R.keep a o' e
 objs := R.objs
 wf := R.wf
 apart := fun a h => by
  have q : a ≠ I := fun q => al.foot (q ▸ h)
  rw [addFr_ne q]; exact R.apart a h
 ns := R.ns
 cel := R.cel
 frame := ⟨by rw [addFr_ne (Ne.symm al.L)]; exact R.frame.1, fun x k hk => by rw [addFr_ne (Ne.symm (al.cells x k hk))]; exact R.frame.2 x k hk⟩
 kl := R.kl
theorem Rel.drop {c : Cx} {f : Fm} {ρ : Lo} {σ : Hp} {fr : Nat -> Option Obj} {z s : Shared} {I : Nat} {o : Obj} (hI : fr I = none) (R : c.Rel f ρ σ (addFr fr I o) z s) (hs : I ∉ f.slotted) : c.Rel f ρ σ fr z s /\ Alien f σ fr I /\ s.heap.get? I = some o := by
 have k : ∀ a o', fr a = some o' -> addFr fr I o a = some o' := fun a o' e => by
  rw [addFr_ne (fun q => by subst q; rw [hI] at e; cases e)]; exact e
 have back : ∀ a, addFr fr I o a = none -> a ≠ I /\ fr a = none := fun a e => by
  by_cases q : a = I
  · subst q; rw [addFr_self] at e; cases e
  · rw [addFr_ne q] at e; exact ⟨q, e⟩
 refine (iA2 ⟨R.same, fun a o' e => R.keep a o' (k a o' e), R.objs, R.wf, fun a h => ⟨(back a (R.apart a h).1).2, (R.apart a h).2⟩, R.ns, R.cel, ⟨(back _ R.frame.1).2, fun x c' hc => ⟨(back _ (R.frame.2 x c' hc).1).2, (R.frame.2 x c' hc).2⟩⟩, R.kl⟩ ?_ ?_)
 · exact ⟨hI, fun h => (back I (R.apart I h).1).1 rfl, fun q => (back _ R.frame.1).1 q.symm, fun x c' hc q => (back _ (R.frame.2 x c' hc).1).1 q.symm⟩
 · refine eEA (R.keep I o addFr_self) fun sl e1 e2 => ?_
   rw [e1, e2 hs]
theorem Rel.alien {c : Cx} {f : Fm} {ρ : Lo} {σ : Hp} {fr : Nat -> Option Obj} {z s : Shared} (R : c.Rel f ρ σ fr z s) {I : Nat} (al : Alien f σ fr I) {h' : Heap} {tk : Nat} (hk : ∀ t mo, σ I ≠ some (t, mo)) (k : ∀ a o, a ≠ I -> s.heap.get? a = some o -> h'.get? a = some o) :
 c.Rel f ρ σ fr z { s with heap := h', toks := tk } where
 same := R.same
 keep := fun a o e => let ⟨sl, e1, e2⟩ := R.keep a o e; (iEA sl (k a _ (fun q => by subst q; rw [al.fr] at e; cases e) e1) e2)
 objs := fun a t mo e => (R.objs a t mo e).of_same (fun o e' => k a o (fun q => by subst q; exact hk t mo e) e') fun d o hi ed e' => k d o (fun q => by
  subst ed
  cases mo <;> first | cases hi | skip
  exact al.foot (q ▸ .inr (iE3 _ _ _ e))) e'
 wf := R.wf
 apart := R.apart
 ns := by refine eEA R.ns fun m z1' q => ?_; obtain ⟨o, es, ep, e, r⟩ := z1'; exact (iEA m (iE3 o es ep ⟨k _ _ (Ne.symm al.L) e, r⟩) q)
 cel := fun x c' hc => by refine eEEA (R.cel x c' hc) fun o v e r => ?_; exact (iEEA o v (k _ _ (Ne.symm (al.cells x c' hc)) e) r)
 frame := R.frame
 kl := R.kl
structure Steps (c : Cx) (I : Nat) (It : Nat -> Heap -> Prop) (items : List MV) (still : Hp -> Prop) : Prop where
 obj : ∀ k h, It k h -> ∃ o, h.get? I = some o /\ o.cls ≠ .type "list"
 move : ∀ k h h', It k h -> (∀ o, h.get? I = some o -> h'.get? I = some o) -> It k h'
 item : ∀ {k v f ρ σ fr z s A} {Q : Option Value -> Shared -> Prop} {E : Value -> Shared -> Prop}, c.Rel f ρ σ fr z s -> still σ -> It k s.heap -> items[k]? = some v ->
  (∀ u h' tk, v.Is u -> It (k + 1) h' -> (∀ a o, a ≠ I -> s.heap.get? a = some o -> h'.get? a = some o) -> Q (some u) { s with heap := h', toks := tk }) -> wpAny c.M A (pyNext (.ref I)) Q E s
 self : ∀ {k s A} {Q : Value -> Shared -> Prop} {E : Value -> Shared -> Prop}, It k s.heap -> Q (.ref I) s -> wpAny c.M A (pyIter (.ref I)) Q E s
 done : ∀ {k f ρ σ fr z s A} {Q : Option Value -> Shared -> Prop} {E : Value -> Shared -> Prop}, c.Rel f ρ σ fr z s -> A.handled = none -> still σ -> It k s.heap -> items[k]? = none ->
  (∀ h' tk, (∀ a o, a ≠ I -> s.heap.get? a = some o -> h'.get? a = some o) -> Q none { s with heap := h', toks := tk }) -> wpAny c.M A (pyNext (.ref I)) Q E s
def WFor (c : Cx) (i : Ix) (x : Str) (body : List Stmt) (still : Hp -> Prop) (Q : MF -> Lo -> Hp -> Prop) : List MV -> Lo -> Hp -> Prop
 | [], ρ, σ => still σ /\ Q .next ρ σ
 | v :: vs, ρ, σ => still σ /\ WSt c i x v ρ (fun ρ₁ σ₁ => WSs c i body ρ₁ (fun m ρ₂ σ₂ => match m with
  | .next | .cont => WFor c i x body still Q vs ρ₂ σ₂
  | .brk => Q .next ρ₂ σ₂
  | .ret u => Q (.ret u) ρ₂ σ₂) noSX σ₁) noSX σ
theorem noSX_elim {c : Cx} {f : Fm} {fr : Nat -> Option Obj} {z : Shared} {v : Value} {s : Shared} {P : Prop} (h : XPost c f fr z noSX v s) : P := by obtain ⟨_, _, _, _, _, _, _, q⟩ := h; exact q.elim
theorem for_code {c : Cx} {i : Ix} (hn : i.hn = true) {x : Str} {px : Pos} {body : List Stmt} {I : Nat} {It : Nat -> Heap -> Prop} {items : List MV} {still : Hp -> Prop} (T : Steps c I It items still) {ρ : Lo} {σ : Hp} {Q : MF -> Lo -> Hp -> Prop} {X : Value -> Shared -> Prop}
 {f : Fm} {fr : Nat -> Option Obj} {z s : Shared} (a : f.env.scope = i.sc) (b : i.hn = true -> f.A.handled = none) (g : Good c i.n f fr) (R : c.Rel f ρ σ fr z s) (al : Alien f σ fr I) (it : It 0 s.heap) (h : WFor c i x body still Q items ρ σ) :
 codeAny c.M f.A (.forLoop (.Name x px) (.ref I) body [] f.env) (fun r s' => match r with
  | .ok fl => ∃ m ρ' σ', MF.Is m fl /\ c.Rel f ρ' σ' fr z s' /\ Q m ρ' σ'
  | .error e => X e s') s := by
 have nI : I ∉ f.slotted := fun h => by obtain ⟨o, e⟩ := g.slotIn I h; rw [al.fr] at e; cases e
 refine codeAny_forLoop (fun m s' => ∃ k ρ' σ', m + k = items.length /\ It k s'.heap /\ c.Rel f ρ' σ' fr z s' /\ Alien f σ' fr I /\ WFor c i x body still Q (items.drop k) ρ' σ') ?_ items.length (iE3 0 ρ σ (iA4 (by simp) it R al (by simpa using h)))
 rintro m s' ⟨k, ρ', σ', hmk, it', R', al', h'⟩
 have hkl : ∀ t mo, σ' I ≠ some (t, mo) := fun t mo e => by
  cases q : mo.isK with
  | false => exact al'.foot (.of_some e q)
  | true =>
   cases mo <;> first | cases q | skip
   refine eA2 (R'.objs _ _ _ e) fun h1 h2 _ => ?_
   refine eEA (T.obj _ _ it') fun o h3 h4 => ?_
   rw [h3] at h1; cases h1; exact h4 h2
 cases e : items[k]? with
 | none =>
  have el : items.drop k = [] := by
   rw [List.drop_eq_nil_iff]
   exact List.getElem?_eq_none_iff.mp e
  rw [el] at h'
  refine T.done R' (b hn) h'.1 it' e fun h₁ tk k₁ => ?_
  refine wpAny_execs_nil ?_
  exact (iEEEAA (.next) ρ' σ' rfl (R'.alien (tk := tk) al' hkl k₁) h'.2)
 | some v =>
  obtain ⟨hlt, rfl⟩ := Gs e
  rw [List.drop_eq_getElem_cons hlt] at h'
  refine T.item R' h'.1 it' e fun u h₁ tk is it₁ k₁ => ?_
  have R₁ := R'.alien (tk := tk) al' hkl k₁
  refine eEA (T.obj _ _ it₁) fun o ho hoc => ?_
  have R₂ := R₁.add al' ho
  refine wpAny_assign_Name (wuse4 (h'.2 u is f _ z _ a b (g.add al.fr) R₂) (fun _ s₂ ρ₂ σ₂ R₃ h₂ => ?_) fun _ _ x => noSX_elim x)
  refine wuse6 (h₂ f _ z s₂ a b (g.add al.fr) R₃) (fun fl s₃ mf ρ₃ σ₃ is₃ R₄ h₃ => ?_) fun _ _ x => noSX_elim x
  refine eA2 (Rel.drop al.fr R₄ nI) fun R₅ al₅ ho₅ => ?_
  have again : WFor c i x body still Q (items.drop (k + 1)) ρ₃ σ₃ -> ∃ m', m' < m /\ ∃ k ρ' σ', m' + k = items.length /\ It k s₃.heap /\ c.Rel f ρ' σ' fr z s₃ /\ Alien f σ' fr I /\ WFor c i x body still Q (items.drop k) ρ' σ' := fun h₃ => by
   refine ⟨m - 1, by omega, k + 1, ρ₃, σ₃, by omega, T.move _ _ _ it₁ fun o' e' => ?_, R₅, al₅, h₃⟩
   rw [ho] at e'; cases e'; exact ho₅
  cases mf with
  | next => cases is₃; exact again h₃
  | cont => cases is₃; exact again h₃
  | brk => cases is₃; exact (iEEEAA (.next) ρ₃ σ₃ rfl R₅ h₃)
  | ret v => refine eEA is₃ fun u' z1' is' => ?_; clear is₃; subst z1'; exact (iEEEAA (.ret v) ρ₃ σ₃ (iEA u' rfl is') R₅ h₃)
theorem Steps.list (c : Cx) {I a : Nat} (hne : a ≠ I) (xs : List MV) : Steps c I (fun k h => h.IsListIter I a k) xs (fun σ => ListAt σ a xs) where
 obj := fun k h z9 => by obtain ⟨o, h1, h2, _⟩ := z9; exact ⟨o, h1, by rw [h2]; decide⟩
 move := fun k h h' ⟨o, h1, h2⟩ m => (iEA o (m o h1) h2)
 item := fun R st it e hQ => by
  refine eEA (R.isList st) fun its hi r => ?_
  refine eEA (r.get e) fun u hu is => ?_
  exact wpAny_pyNext_list_item it hi (by simpa using hu) fun h' it' hs => hQ u h' _ is it' fun a o ne ho => (hs.2 a ne).trans ho
 self := fun it hQ => wpAny_pyIter_listiter it hQ
 done := fun R hh st it e hQ => by
  refine eEA (R.isList st) fun its hi r => ?_
  refine wpAny_pyNext_list_end hh it hi ?_ fun h' hs => hQ h' _ hs
  have := r.length
  rw [Array.getElem?_eq_none_iff]
  rw [List.getElem?_eq_none_iff] at e
  simp at this
  omega
def upTo (lo hi : Int) : List MV := (List.range (hi - lo).toNat).map fun (k : Nat) => .int (lo + (k : Int))
theorem Steps.range (c : Cx) {I : Nat} (lo hi : Int) : Steps c I (fun k h => IsRangeIter h I (lo + (k : Nat)) (((hi - lo).toNat : Int) - (k : Nat)) 1) (upTo lo hi) (fun _ => True) where
 obj := fun k h e => (iEA _ e (by show Value.type "range_iterator" ≠ .type "list"; decide))
 move := fun k h h' e m => m _ e
 item := fun {k v f ρ σ fr z s A Q E} R st it e hQ => by
  unfold upTo at e
  rw [List.getElem?_map, Option.map_eq_some_iff] at e
  refine eEA e fun j e1 z1' => ?_; clear e; subst z1'
  obtain ⟨hj, e2⟩ := Gs e1
  rw [List.getElem_range] at e2
  subst e2
  rw [List.length_range] at hj
  refine wpAny_pyNext_range_item it (by omega) fun h' it' hs => hQ _ h' _ ⟨_, rfl⟩ ?_ fun a o ne ho => (hs.2 a ne).trans ho
  have e1 : lo + ((k + 1 : Nat) : Int) = lo + (k : Int) + 1 := by omega
  have e2 : ((hi - lo).toNat : Int) - ((k + 1 : Nat) : Int) = ((hi - lo).toNat : Int) - (k : Int) - 1 := by omega
  rw [e1, e2]; exact it'
 self := fun it hQ => wpAny_pyIter_rangeiter it hQ
 done := fun {k f ρ σ fr z s A Q E} R hh st it e hQ => by
  refine wpAny_pyNext_range_end hh it ?_ fun h' hs => hQ h' _ hs
  rw [List.getElem?_eq_none_iff] at e
  simp [upTo] at e
  omega
theorem isInt_shape {c : Cx} {k : Int} {v : Value} (h : (PySem.intKind c.prog c.w).is k v = true) : ∃ t, v = .int k t := by
 cases v <;> simp [PySem.intKind, Value.isInt] at h
 subst h
 exact ⟨_, rfl⟩
theorem Steps.idict (c : Cx) {I a : Nat} (es : List (Int × MV)) (ep : Nat) (hne : a ≠ I) : Steps c I (fun k h => h.IsKeyIter I a k es.length ep) (es.map fun p => .int p.1) (fun σ => ∃ t, σ a = some (t, .idict es ep)) where
 obj := fun k h z9 => by obtain ⟨o, h1, h2, _⟩ := z9; exact ⟨o, h1, by rw [h2]; decide⟩
 move := fun k h h' ⟨o, h1, h2⟩ m => (iEA o (m o h1) h2)
 item := fun {k v f ρ σ fr z s A Q E} R st it e hQ => by
  obtain ⟨t, st⟩ := st
  refine eAEAA (Rel.idict R st) fun l kvs _ hD r => ?_
  rw [List.getElem?_map, Option.map_eq_some_iff] at e
  refine eEA e fun p e1 z1' => ?_; clear e; subst z1'
  refine eEA (r.get e1) fun q hq hpq => ?_
  have it2 : s.heap.IsKeyIter I a k kvs.length ep := by rw [<- r.length]; exact it
  refine wpAny_pyNext_dict_item it2 hD (k := q.1) (v := q.2) hq fun key h' hk it' hs => ?_
  rw [<- hpq.1] at hk
  exact hQ key h' _ (isInt_shape hk) (by show h'.IsKeyIter I a (k + 1) es.length ep; rw [r.length]; exact it') fun a o ne ho => (hs.2 a ne).trans ho
 self := fun it hQ => wpAny_pyIter_keyiter it hQ
 done := fun {k f ρ σ fr z s A Q E} R hh st it e hQ => by
  obtain ⟨t, st⟩ := st
  refine eAEAA (Rel.idict R st) fun l kvs _ hD r => ?_
  have it2 : s.heap.IsKeyIter I a k kvs.length ep := by rw [<- r.length]; exact it
  refine wpAny_pyNext_dict_end hh it2 hD ?_ fun h' hs => hQ h' _ hs
  rw [List.getElem?_map, Option.map_eq_none_iff, List.getElem?_eq_none_iff, r.length] at e
  exact List.getElem?_eq_none_iff.mpr e
theorem Rel.edict {c : Cx} {f : Fm} {ρ : Lo} {σ : Hp} {fr : Nat -> Option Obj} {z s : Shared} (R : c.Rel f ρ σ fr z s) {a t ep : Nat} {es : List (Str × MV)} (h : σ a = some (t, .edict es ep)) : (a == sysModules) = false /\ ∃ kvs, s.heap.DictOf (PySem.strKind c.prog c.w) a kvs /\ s.heap.DictAt (PySem.strKind c.prog c.w) a kvs ep /\ All2 PR es kvs := by
 refine eA1 (R.objs _ _ _ h) fun l y0' => eE1 y0' fun o y1' => eA2 y1' fun ho z1' y2' => eE1 y2' fun q hq => ?_; obtain ⟨kvs, hd, r⟩ := z1'
 have hk := Heap.dictOf_iff.mpr (iEA o ho hd)
 refine ⟨l, kvs, hk, ?_, r⟩
 refine eEEEAAA hk.dictAt fun ep' o' es' h1 h2 h3 h4 => ?_
 obtain rfl : o = o' := Oi (ho.symm.trans h1)
 rw [hq] at h3
 cases h3
 exact (iEEAAA o q ho h2 hq h4)
theorem isText_shape {c : Cx} {k : Str} {v : Value} (h : (PySem.strKind c.prog c.w).is k v = true) : ∃ t, v = .str k t := by
 cases v <;> simp [PySem.strKind, Value.isStrOf] at h
 subst h
 exact ⟨_, rfl⟩
theorem Steps.edict (c : Cx) {I a : Nat} (es : List (Str × MV)) (ep : Nat) (hne : a ≠ I) : Steps c I (fun k h => h.IsKeyIter I a k es.length ep) (es.map fun p => .str p.1) (fun σ => ∃ t, σ a = some (t, .edict es ep)) where
 obj := fun k h z9 => by obtain ⟨o, h1, h2, _⟩ := z9; exact ⟨o, h1, by rw [h2]; decide⟩
 move := fun k h h' ⟨o, h1, h2⟩ m => (iEA o (m o h1) h2)
 item := fun {k v f ρ σ fr z s A Q E} R st it e hQ => by
  obtain ⟨t, st⟩ := st
  refine eAEAA (Rel.edict R st) fun l kvs _ hD r => ?_
  rw [List.getElem?_map, Option.map_eq_some_iff] at e
  refine eEA e fun p e1 z1' => ?_; clear e; subst z1'
  refine eEA (r.get e1) fun q hq hpq => ?_
  have it2 : s.heap.IsKeyIter I a k kvs.length ep := by rw [<- r.length]; exact it
  refine wpAny_pyNext_dict_item it2 hD (k := q.1) (v := q.2) hq fun key h' hk it' hs => ?_
  rw [<- hpq.1] at hk
  exact hQ key h' _ (isText_shape hk) (by show h'.IsKeyIter I a (k + 1) es.length ep; rw [r.length]; exact it') fun a o ne ho => (hs.2 a ne).trans ho
 self := fun it hQ => wpAny_pyIter_keyiter it hQ
 done := fun {k f ρ σ fr z s A Q E} R hh st it e hQ => by
  obtain ⟨t, st⟩ := st
  refine eAEAA (Rel.edict R st) fun l kvs _ hD r => ?_
  have it2 : s.heap.IsKeyIter I a k kvs.length ep := by rw [<- r.length]; exact it
  refine wpAny_pyNext_dict_end hh it2 hD ?_ fun h' hs => hQ h' _ hs
  rw [List.getElem?_map, Option.map_eq_none_iff, List.getElem?_eq_none_iff, r.length] at e
  exact List.getElem?_eq_none_iff.mpr e
theorem Steps.text (c : Cx) {I : Nat} (x : Str) (t : Tok) : Steps c I (fun k h => h.IsStrIter I "str_ascii_iterator" x t k) (x.cps.toList.map fun n => .str ⟨#[n]⟩) (fun _ => True) where
 obj := fun k h z9 => by obtain ⟨o, h1, h2, _⟩ := z9; exact ⟨o, h1, by rw [h2]; decide⟩
 move := fun k h h' ⟨o, h1, h2⟩ m => (iEA o (m o h1) h2)
 item := fun {k v f ρ σ fr z s A Q E} R st it e hQ => by
  rw [List.getElem?_map, Option.map_eq_some_iff] at e
  refine eEA e fun n e1 z1' => ?_; clear e; subst z1'
  exact wpAny_pyNext_ascii_item it (by simpa using e1) fun h' it' hs => hQ _ h' _ ⟨_, rfl⟩ it' fun a o ne ho => (hs.2 a ne).trans ho
 self := fun it hQ => wpAny_pyIter_striter_ascii it hQ
 done := fun {k f ρ σ fr z s A Q E} R hh st it e hQ => by
  rw [List.getElem?_map, Option.map_eq_none_iff] at e
  exact wpAny_pyNext_ascii_end hh it (by simpa using e) fun h' hs => hQ h' _ hs
theorem Rel.isTuple {c : Cx} {f : Fm} {ρ : Lo} {σ : Hp} {fr : Nat -> Option Obj} {z s : Shared} (R : c.Rel f ρ σ fr z s) {a t : Nat} {xs : List MV} (h : σ a = some (t, .tuple xs)) : ∃ its, s.heap.IsTuple a its /\ All2 MV.Is xs its.toList := by
 refine eEEA (R.objs _ _ _ h) fun its n ho r => ?_; exact (iEA its ⟨_, ho, rfl, n, rfl⟩ r)
section
variable {c : Cx} {i : Ix} {ρ : Lo} {σ : Hp} {X : SX} {Q : MF -> Lo -> Hp -> Prop}
abbrev NotSet (e : Expr) : Prop := ∀ env x, foldedSetIterable e env x = pure x
inductive Iterable : Hp -> MV -> List MV -> (Hp -> Prop) -> Prop
 | list {σ a xs} : ListAt σ a xs -> Iterable σ (.ref a) xs (fun σ => ListAt σ a xs)
 | range {σ a t lo hi} : σ a = some (t, .range lo hi) -> -1000000000000 <= lo -> lo <= 1000000000000 -> -1000000000000 <= hi -> hi <= 1000000000000 -> Iterable σ (.ref a) (upTo lo hi) (fun _ => True)
 | idict {σ a t es ep} : σ a = some (t, .idict es ep) -> Iterable σ (.ref a) (es.map fun p => .int p.1) (fun σ => ∃ t, σ a = some (t, .idict es ep))
 | edict {σ a t es ep} : σ a = some (t, .edict es ep) -> Iterable σ (.ref a) (es.map fun p => .str p.1) (fun σ => ∃ t, σ a = some (t, .edict es ep))
 | text {σ x} : x.cps.all (· < 128) = true -> Iterable σ (.str x) (x.cps.toList.map fun n => .str ⟨#[n]⟩) (fun _ => True)
theorem fitsA {x : Int} (a : -1000000000000 <= x) (b : x <= 1000000000000) : -2 ^ 63 <= x /\ x < 2 ^ 63 := by omega
theorem iter_start {f : Fm} {fr : Nat -> Option Obj} {z s : Shared} {A : Around} {v : MV} {u : Value} {xs : List MV} {still : Hp -> Prop} {E : Value -> Shared -> Prop} {P : Value -> Shared -> Prop} (R : c.Rel f ρ σ fr z s) (itb : Iterable σ v xs still) (is : v.Is u)
 (h : ∀ I It h₂, Steps c I It xs still -> s.heap.objs.size <= I -> I < h₂.objs.size -> (∀ b o, s.heap.get? b = some o -> h₂.get? b = some o) -> It 0 h₂ -> P (.ref I) { s with heap := h₂ }) : wpAny c.M A (pyIter u) P E s := by
 cases itb with
 | @list l xs hl =>
  cases is
  refine eEA (R.isList hl) fun its hi r => ?_
  have hlt : l < s.heap.objs.size := by refine eEA hi fun o ho _ => ?_; clear hi; exact Heap.lt_size ho
  exact wpAny_pyIter_list hi (h _ _ _ (Steps.list c (Nat.ne_of_lt hlt) xs) (Nat.le_refl _) (by rw [Heap.size_push]; exact Nat.lt_succ_self _) (grows _ _) (iEAA _ (Heap.get?_push_size _ rfl) rfl rfl))
 | @range l t lo hi hr h1 h2 h3 h4 =>
  cases is
  refine eE3 (R.objs _ _ _ hr) fun t1 t2 t3 hr' => ?_
  refine wpAny_pyIter_range hr' ?_ (h _ _ _ (Steps.range c lo hi) (Nat.le_refl _) (by rw [Heap.size_push]; exact Nat.lt_succ_self _) (grows _ _) ?_)
  · unfold Builtin.Range.small
    rw [rangeSize_nat]
    rw [if_pos (by decide : (1 : Int) > 0)]
    simp only [Bool.and_eq_true, Bool.or_eq_true, Builtin.Range.rangeFitsLong, decide_eq_true_eq]
    refine ⟨⟨⟨⟨?_, ?_⟩, ?_⟩, ?_⟩, .inr ?_⟩ <;> first | exact fitsA h1 h2 | exact fitsA h3 h4 | decide | (constructor <;> omega)
  · have e := Heap.get?_push_size s.heap (o := { cls := .type "range_iterator", data := .fields #[rawInt lo, rawInt (Builtin.Range.rangeSize lo hi 1), rawInt 1] }) rfl
    rw [rangeSize_nat] at e ⊢
    show IsRangeIter _ _ _ _ _
    have e1 : lo + ((0 : Nat) : Int) = lo := Int.add_zero lo
    have e2 : ((hi - lo).toNat : Int) - ((0 : Nat) : Int) = ((hi - lo).toNat : Int) := Int.sub_zero _
    rw [e1, e2]
    exact e
 | @idict l t es ep hd =>
  cases is
  refine eAEAA (Rel.idict R hd) fun hl kvs _ hD r => ?_
  have hlt : l < s.heap.objs.size := R.some_lt hd
  refine wpAny_pyIter_dict hl hD (h _ _ _ (Steps.idict c es ep (Nat.ne_of_lt hlt)) (Nat.le_refl _) (by rw [Heap.size_push]; exact Nat.lt_succ_self _) (grows _ _) ?_)
  show Heap.IsKeyIter _ _ _ _ _ _
  rw [r.length]
  exact (iEAA _ (Heap.get?_push_size _ rfl) rfl rfl)
 | @edict l t es ep hd =>
  cases is
  refine eAEAA (Rel.edict R hd) fun hl kvs _ hD r => ?_
  have hlt : l < s.heap.objs.size := R.some_lt hd
  refine wpAny_pyIter_dict hl hD (h _ _ _ (Steps.edict c es ep (Nat.ne_of_lt hlt)) (Nat.le_refl _) (by rw [Heap.size_push]; exact Nat.lt_succ_self _) (grows _ _) ?_)
  show Heap.IsKeyIter _ _ _ _ _ _
  rw [r.length]
  exact (iEAA _ (Heap.get?_push_size _ rfl) rfl rfl)
 | @text x hx =>
  obtain ⟨t, rfl⟩ := is
  exact wpAny_pyIter_ascii hx (h _ _ _ (Steps.text c x t) (Nat.le_refl _) (by rw [Heap.size_push]; exact Nat.lt_succ_self _) (grows _ _) (iEAA _ (Heap.get?_push_size _ rfl) rfl rfl))
theorem Rel.alienAt {f : Fm} {fr : Nat -> Option Obj} {z s : Shared} (R : c.Rel f ρ σ fr z s) {I : Nat} (h : s.heap.objs.size <= I) {σ' : Hp} (hf : ¬ Foot σ' I) : Alien f σ' fr I where
 fr := by
  cases e : fr I with
  | none => rfl
  | some o => exact absurd (R.fr_lt e) (Nat.not_lt.mpr h)
 foot := hf
 L := fun q => by have h' := R.L_lt; rw [show f.L = I from q.symm] at h'; exact absurd h' (Nat.not_lt.mpr h)
 cells := fun x k hk q => by have h' := R.cel_lt hk; rw [<- q] at h'; exact absurd h' (Nat.not_lt.mpr h)
theorem Rel.alienNew {f : Fm} {fr : Nat -> Option Obj} {z s : Shared} (R : c.Rel f ρ σ fr z s) {I : Nat} (h : s.heap.objs.size <= I) : Alien f σ fr I := R.alienAt h fun hf => absurd (R.foot_lt hf) (Nat.not_lt.mpr h)
theorem WS.for {x px it body pos} (hn : i.hn = true) (hs : NotSet it) (h : WE c i it ρ (fun v σ₁ => ∃ xs still, Iterable σ₁ v xs still /\ WFor c i x body still Q xs ρ σ₁) (X.ex ρ) σ) :
 WS c i (.For (.Name x px) it body [] pos) ρ Q X σ := fun f fr z s a b g R => by
 refine wpAny_For (wuse (h f fr z s a b g R) (fun u s₁ v σ₁ is R₁ q9 => ?_) fun _ _ x => Ex.at x) (hs _); obtain ⟨xs, still, itb, h₁⟩ := q9
 refine iter_start R₁ itb is fun I It h₂ T hI _ kp it => ?_
 have R₂ := R₁.grown (tk := s₁.toks) kp
 exact codeAny_mono (for_code hn T (X := fun _ _ => False) a b g R₂ (R₁.alienNew hI) it h₁) fun r s' q => by
  cases r with
  | ok fl => exact q
  | error e => exact q.elim
theorem Alien.none {n : Nat} {f : Fm} {fr : Nat -> Option Obj} {z s : Shared} (g : Good c n f fr) (R : c.Rel f ρ σ fr z s) {I : Nat} (al : Alien f σ fr I) : ∀ t mo, σ I ≠ some (t, mo) := fun t mo e => by
 cases q : mo.isK with
 | false => exact al.foot (.of_some e q)
 | true =>
  cases mo <;> first | cases q | skip
  have h1 := g.base _ _ (R.kl _ _ _ _ e)
  rw [al.fr] at h1; cases h1
end
end Mine
open PySem PySem.W PyProof.Rows
namespace Mine
section
variable {c : Cx} {i : Ix} {ρ : Lo} {σ : Hp} {X : EX}
theorem WCall.range1 {n : Int} {Q : MV -> Hp -> Prop} (t : Nat) (h : ∀ b, Fresh σ b -> Q (.ref b) (σ.put b t (.range 0 n))) : WCall c i (.con (.type "range")) [.int n] ρ Q X σ := fun v us iv iu f fr z s _ _ g R => by
 cases iv
 refine eE1 iu.one fun u y0' => eA1 y0' fun z1' y1' => eE1 y1' fun tk z2' => ?_; subst z1'; subst z2'
 refine call_range_1 (iEEAA (.ref s.heap.objs.size) _ rfl (R.alloc (mo := .range 0 n) t (.of_grown (grows _ _)) (Nat.le_refl _) (fun q => by cases q) (iE3 _ _ _ (Heap.get?_push_size _ rfl))) (h _ R.fresh))
theorem WCall.max2 {m n : Int} {Q : MV -> Hp -> Prop} (hn : i.hn = true) (h : Q (.int (if n > m then n else m)) σ) : WCall c i (.con (.builtin "max")) [.int m, .int n] ρ Q X σ := fun v us iv iu f fr z s _ hh g R => by
 cases iv
 refine eEEAA iu.two fun u u' z1' z2' z3' => ?_; subst z1'; obtain ⟨tk, rfl⟩ := z2'; obtain ⟨tk', rfl⟩ := z3'
 refine max_two_ints (hh hn) fun h' tk k => (iEEAA (.int (if n > m then n else m)) σ ?_ (R.grown k) h)
 split
 · exact ⟨_, rfl⟩
 · exact ⟨_, rfl⟩
theorem WCall.intB {b : Bool} {Q : MV -> Hp -> Prop} (h : Q (.int (if b then 1 else 0)) σ) : WCall c i (.con (.type "int")) [.bool b] ρ Q X σ := fun v us iv iu f fr z s _ hh g R => by
 cases iv
 refine eEA iu.one fun u z1' i1 => ?_; subst z1'
 cases i1
 exact call_int_bool (iEEAA (.int _) σ ⟨_, rfl⟩ (R.toks _) h)
theorem WCall.listKeys {a t' : Nat} {es : List (Str × MV)} {Q : MV -> Hp -> Prop} (t : Nat) (hn : i.hn = true) (hd : σ a = some (t', .sdict es)) (hz : es.length <= 1000000) (h : ∀ b, Fresh σ b -> Q (.ref b) (σ.put b t (.list (es.map fun p => .str p.1)))) : WCall c i (.con (.type "list")) [.ref a] ρ Q X σ := fun v us iv iu f fr z s _ hh g R => by
 cases iv
 refine eEA iu.one fun u z1' i1 => ?_; subst z1'
 cases i1
 refine eAEA (Rel.sdict R hd) fun l kvs hk r => ?_
 obtain ⟨ep, hat⟩ := hk.dictAt
 refine kdl_call (kdl_dict (knd := PySem.strKind c.prog c.w) (kvs := kvs) (ep := ep) l) (hh hn) hat (size_ok (by rw [<- r.length]; exact hz)) fun h' tk acc' c' kp hD hacc => ?_
 refine (iEEAA (.ref s.heap.objs.size) _ rfl (R.alloc (mo := .list (es.map fun p => .str p.1)) t (.of_grown kp) (Nat.le_refl _) (fun q => by cases q) (iEEA acc' c' hD ?_)) (h _ R.fresh))
 obtain ⟨hs, hp⟩ := hacc
 have key : ∀ (es : List (Str × MV)) (kvs : List (Str × Value)) (l : List Value), All2 PR es kvs -> l.length = kvs.length -> (∀ (j : Nat) v, l[j]? = some v -> ∃ k x, kvs[j]? = some (k, x) /\ (PySem.strKind c.prog c.w).is k v = true) -> All2 MV.Is (es.map fun p => .str p.1) l := by
  intro es kvs l r
  induction r generalizing l with
  | nil => intro hl _; cases l with
   | nil => exact .nil
   | cons _ _ => simp at hl
  | @cons p q l1 l2 r0 r1 ih =>
   intro hl hv
   cases l with
   | nil => simp at hl
   | cons v l =>
    refine eEEA (hv 0 v rfl) fun k x e1 e2 => ?_
    cases e1
    obtain ⟨tk, rfl⟩ := Value.isStrOf_shape e2
    refine .cons ⟨tk, ?_⟩ (ih l (by simpa using hl) fun j v' hj => hv (j + 1) v' hj)
    rw [r0.1]
 exact key es kvs acc'.toList r (by simpa using hs) fun j v hj => hp j v (by simpa using hj)
def repS (x : Str) (n : Nat) : Str := ⟨(List.replicate n x.cps).foldl (· ++ ·) #[]⟩
theorem foldl_app (l : List (Array Nat)) (acc : Array Nat) : l.foldl (· ++ ·) acc = acc ++ l.foldl (· ++ ·) #[] := by
 induction l generalizing acc with
 | nil => simp
 | cons a r ih => simp only [List.foldl_cons]; rw [ih (acc ++ a), ih (#[] ++ a)]; simp
theorem repS_length (x : Str) (n : Nat) : (repS x n).length = n * x.length := by
 show ((List.replicate n x.cps).foldl (· ++ ·) #[]).size = _
 induction n with
 | zero => simp
 | succ n ih =>
  rw [List.replicate_succ, List.foldl_cons, foldl_app, Array.size_append, Array.size_append, ih, Nat.succ_mul]
  show 0 + x.length + n * x.length = _
  omega
theorem WB.mulS {x : Str} {n : Int} {Q : MV -> Hp -> Prop} (h0 : 0 <= n) (h1 : n <= 1000) (h2 : x.length <= 1000) (h : Q (.str (repS x n.toNat)) σ) : WB c i .Mult (.str x) (.int n) ρ Q X σ := fun v u iv iu f fr z s _ _ g R => by
 obtain ⟨t, rfl⟩ := iv; obtain ⟨t', rfl⟩ := iu
 have hlen : x.length * n.toNat <= 1000000 := by
  have : n.toNat <= 1000 := by omega
  exact Nat.le_trans (Nat.mul_le_mul h2 this) (by decide)
 have fin : ∀ tk tk', (fun (a : Value) s' => ∃ m σ', MV.Is m a /\ c.Rel f ρ σ' fr z s' /\ Q m σ') (.str (repS x n.toNat) tk) { s with toks := tk' } := fun tk tk' => (iEEAA (.str (repS x n.toNat)) σ ⟨_, rfl⟩ (R.toks _) h)
 refine PySem.P.mul_str (by simp; omega) (fun _ hq => ?_) (fun _ _ => ?_) ?_
 · intro hgt
   have hn1 : (1 : Int) <= n := by omega
   have : (2 ^ 63 - 1 : Int) / 1000 <= (2 ^ 63 - 1) / n := by
    have h3 : (2 ^ 63 - 1 : Int) / 1000 * n <= 2 ^ 63 - 1 := by
     have : (2 ^ 63 - 1 : Int) / 1000 = 9223372036854775 := by decide
     rw [this]
     have : (9223372036854775 : Int) * n <= 9223372036854775 * 1000 := Int.mul_le_mul_of_nonneg_left h1 (by decide)
     omega
    exact (Int.le_ediv_iff_mul_le (by omega)).mpr h3
   have e : (2 ^ 63 - 1 : Int) / 1000 = 9223372036854775 := by decide
   omega
 · unfold Builtin.Str.tooLong
   rw [decide_eq_false_iff_not, sizeLine_eq]
   omega
 · by_cases q : n < 1
   · rw [if_pos q]
     have : n.toNat = 0 := by omega
     have e : repS x n.toNat = Str.empty := by rw [this]; rfl
     refine ⟨by rw [sizeLine_eq]; show 0 <= _; omega, ?_⟩
     rw [<- e]; exact fin _ _
   · rw [if_neg q]
     by_cases q2 : (n == 1 || x.length == 0) = true
     · rw [if_pos q2]
       have e : repS x n.toNat = x := by
        rw [Bool.or_eq_true] at q2
        rcases q2 with q2 | q2
        · have : n.toNat = 1 := by have := beq_iff_eq.mp q2; omega
          rw [this]
          show (⟨(#[] ++ x.cps)⟩ : Str) = x
          rw [Array.empty_append]
        · have h3 := repS_length x n.toNat
          have h4 := beq_iff_eq.mp q2
          rw [h4, Nat.mul_zero] at h3
          obtain ⟨y, hy⟩ : ∃ y, repS x n.toNat = y := ⟨_, rfl⟩
          rw [hy] at h3 ⊢
          obtain ⟨a⟩ := y
          obtain ⟨b⟩ := x
          have h3' : a.size = 0 := h3
          have h4' : b.size = 0 := h4
          rw [Array.eq_empty_of_size_eq_zero h3', Array.eq_empty_of_size_eq_zero h4']
       show (fun (a : Value) s' => ∃ m σ', MV.Is m a /\ c.Rel f ρ σ' fr z s' /\ Q m σ') (.str x t) s
       have := fin t s.toks
       rw [e] at this
       exact this
     · rw [if_neg q2]
       refine ⟨?_, fin _ _⟩
       rw [sizeLine_eq]
       have := repS_length x n.toNat
       show (repS x n.toNat).length <= _
       rw [this, Nat.mul_comm]
       omega
theorem all2_rep {α β : Type} {Rl : α -> β -> Prop} {l : List α} {m : List β} (h : All2 Rl l m) : ∀ n, All2 Rl (List.replicate n l).flatten (List.replicate n m).flatten
 | 0 => .nil
 | n + 1 => by rw [List.replicate_succ, List.replicate_succ, List.flatten_cons, List.flatten_cons]; exact h.append (all2_rep h n)
theorem WB.mulL {a t' : Nat} {xs : List MV} {n : Int} {Q : MV -> Hp -> Prop} (t : Nat) (hl : σ a = some (t', .list xs)) (h0 : 0 <= n) (h1 : n <= 1000) (h2 : xs.length <= 1000) (h : ∀ b, Fresh σ b -> Q (.ref b) (σ.put b t (.list (List.replicate n.toNat xs).flatten))) : WB c i .Mult (.ref a) (.int n) ρ Q X σ := fun v u iv iu f fr z s _ _ g R => by
 cases iv; obtain ⟨t', rfl⟩ := iu
 refine eEEA (R.objs _ _ _ hl) fun its k ho r => ?_
 refine eEA R.ns fun m hn hm => ?_
 have e : its.size = xs.length := by rw [r.length]; simp
 have hlen : its.size * n.toNat <= 1000000 := by
  have : n.toNat <= 1000 := by omega
  rw [e]
  exact Nat.le_trans (Nat.mul_le_mul h2 this) (by decide)
 refine mul_list (fr_all hn) (news_all s.heap f.env.locals) ho (by omega) (by omega) (by omega) fun h' F' N' => ?_
 have K' : Kept f.L (fun _ => False) s.heap h' := Kept.of_news hn F' N' fun p hp _ => .tail _ hp
 have hD := (N' (s.heap.objs.size, _) (.head _)).1
 rw [listMul_foldl_if] at hD
 refine (iEEAA (.ref s.heap.objs.size) _ rfl (R.alloc (mo := .list (List.replicate n.toNat xs).flatten) (tk := s.toks) t K' (Nat.le_refl _) (fun q => by cases q) (iEEA _ 0 hD ?_)) (h _ R.fresh))
 simpa using all2_rep r n.toNat
end
end Mine
open PySem PySem.W PyProof.Rows
namespace Mine
def closOf : List (Str × NameKind) -> List (Str × Nat) -> List (Str × Nat) -> List (Str × Nat)
 | [], _, acc => acc
 | (x, k) :: r, cells, acc => if k == .free then closOf r cells ((x, (cells.lookup x).getD 0) :: acc) else closOf r cells acc
theorem closureFor_eq {scope : Scope} {env : Env} (h : ∀ p ∈ scope.names, p.2 = .free -> (env.cells.lookup p.1).isSome = true) : closureFor scope env = pure (closOf scope.names env.cells []) := by
 unfold closureFor
 have key : ∀ (names : List (Str × NameKind)) (acc : List (Str × Addr)), (∀ p ∈ names, p.2 = .free -> (env.cells.lookup p.1).isSome = true) ->
  (forIn names acc fun x r => match x with
   | (name, kind) => if (kind == .free) = true then do
    let a <- cellOf env name
    pure (ForInStep.yield ((name, a) :: r))
    else pure (ForInStep.yield r)) = (pure (closOf names env.cells acc) : Sem _) := by
  intro names
  induction names with
  | nil => intro acc _; rfl
  | cons p r ih =>
   obtain ⟨x, k⟩ := p
   intro acc hh
   rw [List.forIn_cons]
   unfold closOf
   by_cases hk : (k == NameKind.free) = true
   · obtain ⟨a, ha⟩ := Option.isSome_iff_exists.mp (hh (x, k) (.head _) (by simpa using hk))
     have e : cellOf env x = pure a := by unfold cellOf; rw [ha]
     simp only [hk, if_true, e, pure_bind]
     rw [ih _ fun p hp => hh p (.tail _ hp), ha]
     rfl
   · simp only [hk, if_false, pure_bind]
     exact ih _ fun p hp => hh p (.tail _ hp)
 have := key scope.names [] h
 simp only [bind_pure_comp] at this ⊢
 rw [this]
 rfl
theorem mem_closOf {cells : List (Str × Nat)} {x : Str} {a : Nat} : ∀ {names : List (Str × NameKind)} {acc : List (Str × Nat)}, (x, a) ∈ closOf names cells acc ↔ (x, a) ∈ acc ∨ ((x, NameKind.free) ∈ names /\ a = (cells.lookup x).getD 0)
 | [], acc => by simp [closOf]
 | (y, k) :: r, acc => by
  unfold closOf
  by_cases hk : (k == NameKind.free) = true
  · rw [if_pos hk, mem_closOf]
    have : k = .free := by simpa using hk
    subst this
    constructor
    · rintro (h | ⟨h, e⟩)
      · rcases List.mem_cons.mp h with h | h
        · cases h; exact .inr ⟨.head _, rfl⟩
        · exact .inl h
      · exact .inr ⟨.tail _ h, e⟩
    · rintro (h | ⟨h, e⟩)
      · exact .inl (.tail _ h)
      · rcases List.mem_cons.mp h with h | h
        · cases h; left; rw [e]; exact .head _
        · exact .inr ⟨h, e⟩
  · rw [if_neg hk, mem_closOf]
    constructor
    · rintro (h | ⟨h, e⟩)
      · exact .inl h
      · exact .inr ⟨.tail _ h, e⟩
    · rintro (h | ⟨h, e⟩)
      · exact .inl h
      · rcases List.mem_cons.mp h with h | h
        · cases h; exact absurd rfl hk
        · exact .inr ⟨h, e⟩
theorem closOf_names (cells : List (Str × Nat)) : ∀ (names : List (Str × NameKind)) (acc : List (Str × Nat)), (closOf names cells acc).map (·.1) = ((names.filter (·.2 == .free)).map (·.1)).reverse ++ acc.map (·.1)
 | [], acc => by simp [closOf]
 | (y, k) :: r, acc => by
  unfold closOf
  by_cases hk : (k == NameKind.free) = true
  · rw [if_pos hk, closOf_names cells r, List.filter_cons, if_pos hk]; simp
  · rw [if_neg hk, closOf_names cells r, List.filter_cons, if_neg hk]
def relab (scope sc : Scope) : Scope :=
 { scope with names := scope.names.map fun (n, k) => if (k == .free && sc.kind == .function && sc.names.lookup n == some .cell) then (n, .cell) else (n, k) }
def compOk (scope sc : Scope) (x : Str) : Bool :=
 scope.kind == .function && scope.names.all (fun p => p.2 != .cell && (p.2 != .local || p.1 == x || p.1 == (".0" : Str)) && (p.2 != .free || (sc.names.lookup p.1 == some .cell && p.1 != x && p.1 != (".0" : Str)))) && scope.names.lookup x == some .local &&
  decide ((scope.names.filter (·.2 == .free)).map (·.1)).Nodup && (scope.names.lookup (".0" : Str) == some .local || scope.names.all fun p => p.1 != (".0" : Str))
theorem compOk_dot {scope sc : Scope} {x : Str} (h : compOk scope sc x = true) : scope.names.lookup (".0" : Str) = some .local ∨ ∀ y ∈ scope.names, y.1 ≠ (".0" : Str) := by
 simp only [compOk, Bool.and_eq_true, beq_iff_eq, List.all_eq_true, bne_iff_ne, ne_eq, Bool.or_eq_true] at h
 exact h.2
structure CompOk (scope sc : Scope) (x : Str) : Prop where
 kind : scope.kind = .function
 nocell : ∀ p ∈ scope.names, p.2 ≠ .cell
 loc : ∀ p ∈ scope.names, p.2 = .local -> p.1 = x ∨ p.1 = (".0" : Str)
 free : ∀ p ∈ scope.names, p.2 = .free -> sc.names.lookup p.1 = some .cell /\ p.1 ≠ x /\ p.1 ≠ (".0" : Str)
 x : scope.names.lookup x = some .local
 nd : ((scope.names.filter (·.2 == .free)).map (·.1)).Nodup
theorem compOk_of {scope sc : Scope} {x : Str} (h : compOk scope sc x = true) : CompOk scope sc x := by
 simp only [compOk, Bool.and_eq_true, beq_iff_eq, List.all_eq_true, bne_iff_ne, ne_eq, Bool.or_eq_true, decide_eq_true_eq] at h
 obtain ⟨⟨⟨⟨h1, h2⟩, h3⟩, h4⟩, _⟩ := h
 refine ⟨h1, fun p hp => (h2 p hp).1.1, fun p hp e => ?_, fun p hp e => ?_, h3, h4⟩
 · rcases (h2 p hp).1.2 with (q | q) | q
   · exact absurd e q
   · exact .inl q
   · exact .inr q
 · rcases (h2 p hp).2 with q | q
   · exact absurd e q
   · exact (iA2 q.1.1 q.1.2 q.2)
def compFm (f : Fm) (scope : Scope) (C : Nat) : Fm where
 A := f.A
 env := compEnvC scope (closOf scope.names f.env.cells []) C f.env
 top := f.top
 outer := f.outer
 slotted := frameAddrs (f.top :: f.outer)
 base := f.base
open Classical in
noncomputable def restC (σ : Hp) (s : Shared) (cl : List (Str × Nat)) : Nat -> Option Obj := fun a => if Foot σ a ∨ ∃ x, (x, a) ∈ cl then none else s.heap.get? a
section
variable {c : Cx} {n : Nat} {f : Fm} {fr : Nat -> Option Obj} {ρ : Lo} {σ : Hp} {z s : Shared} {scope : Scope} {x : Str}
theorem clos_mem (g : Good c n f fr) (ok : CompOk scope f.env.scope x) {y : Str} {a : Nat} (h : (y, a) ∈ closOf scope.names f.env.cells []) : (y, a) ∈ f.env.cells /\ (y, NameKind.free) ∈ scope.names /\ y ≠ x /\ y ≠ (".0" : Str) := by
 rcases mem_closOf.mp h with h | ⟨h, e⟩
 · cases h
 · obtain ⟨h1, h2⟩ := ok.free _ h rfl
   obtain ⟨k, hk⟩ := Option.isSome_iff_exists.mp (g.celled y h1)
   rw [hk] at e
   exact (iA2 (e ▸ mem_lookup hk) h h2)
theorem restC_of {cl : List (Str × Nat)} {a : Nat} {o : Obj} (h1 : ¬ Foot σ a) (h2 : ∀ y, (y, a) ∉ cl) (h3 : s.heap.get? a = some o) : restC σ s cl a = some o := by
 unfold restC; rw [if_neg (by rintro (q | ⟨y, q⟩); exact h1 q; exact h2 y q)]; exact h3
theorem restC_some {cl : List (Str × Nat)} {a : Nat} {o : Obj} (h : restC σ s cl a = some o) : s.heap.get? a = some o := by
 unfold restC at h; split at h; cases h; exact h
theorem restC_none {cl : List (Str × Nat)} {a : Nat} (h : s.heap.objs.size <= a) : restC σ s cl a = none := by
 cases e : restC σ s cl a with
 | none => rfl
 | some o => exact absurd (Heap.lt_size (restC_some e)) (Nat.not_lt.mpr h)
theorem Good.frameC (g : Good c n f fr) (R : c.Rel f ρ σ fr z s) (ok : CompOk scope f.env.scope x) : ∀ env ∈ f.top :: f.outer, env.scope.kind ≠ .module /\ ∃ L o, env.frame = some L /\ restC σ s (closOf scope.names f.env.cells []) L = some o /\ (∀ vs, o.data ≠ .fields vs) /\ f.base.get? L = none := by
 intro env he
 rcases List.mem_cons.mp he with rfl | he
 · refine ⟨by rw [g.topk.1]; (intro q; cases q), ?_⟩
   refine eEAA g.topL fun L hL h hb => ?_
   rcases h with rfl | ⟨hs, o, ho, hd⟩
   · refine eEA R.ns fun m z1' _ => ?_; obtain ⟨o, es, ep, h1, h2, _⟩ := z1'
     exact (iEEAAA _ o hL (restC_of (fun hf => (R.apart _ hf).2.1 rfl) (fun y hy => (R.frame.2 _ _ (clos_mem g ok hy).1).2 rfl) h1) (fun vs e => (by rw [h2] at e; cases e)) hb)
   · refine eEA (R.keep L o ho) fun sl h1 _ => ?_
     exact (iEEAAA L ({ o with slots := sl }) hL (restC_of (fun hf => by have := (R.apart _ hf).1; rw [ho] at this; cases this) (fun y hy => by have := (R.frame.2 _ _ (clos_mem g ok hy).1).1; rw [ho] at this; cases this) h1) hd hb)
 · refine eAEEAAA (g.outer env he) fun hk L o hL hs ho hd => ?_
   refine eEA (R.keep L o ho) fun sl h1 _ => ?_
   exact (iAEEAAA hk L ({ o with slots := sl }) hL (restC_of (fun hf => by have := (R.apart _ hf).1; rw [ho] at this; cases this) (fun y hy => by have := (R.frame.2 _ _ (clos_mem g ok hy).1).1; rw [ho] at this; cases this) h1) hd (g.apart L hs))
theorem relab_cell {sc : Scope} {y : Str} : ∀ {names : List (Str × NameKind)}, (∀ p ∈ names, p.2 ≠ .cell) -> (names.map fun (n, k) => if (k == NameKind.free && sc.kind == .function && sc.names.lookup n == some .cell) then (n, NameKind.cell) else (n, k)).lookup y = some .cell -> (y, NameKind.free) ∈ names
 | [], _, h => by simp at h
 | (z, k) :: r, hc, h => by
  rw [List.map_cons] at h
  dsimp only at h
  split at h
  · rename_i hk
    rw [List.lookup_cons] at h
    cases q : (y == z) with
    | true =>
     have : k = .free := by simp only [Bool.and_eq_true, beq_iff_eq] at hk; exact hk.1.1
     rw [beq_iff_eq.mp q, this]; exact .head _
    | false => rw [q] at h; exact .tail _ (relab_cell (fun p hp => hc p (.tail _ hp)) h)
  · rw [List.lookup_cons] at h
    cases q : (y == z) with
    | true => rw [q] at h; cases h; exact absurd rfl (hc (z, .cell) (.head _))
    | false => rw [q] at h; exact .tail _ (relab_cell (fun p hp => hc p (.tail _ hp)) h)
theorem relab_local {sc : Scope} {y : Str} : ∀ {names : List (Str × NameKind)}, (names.map fun (n, k) => if (k == NameKind.free && sc.kind == .function && sc.names.lookup n == some .cell) then (n, NameKind.cell) else (n, k)).lookup y = some .local -> (y, NameKind.local) ∈ names
 | [], h => by simp at h
 | (z, k) :: r, h => by
  rw [List.map_cons] at h
  dsimp only at h
  split at h
  · rw [List.lookup_cons] at h
    cases q : (y == z) with
    | true => rw [q] at h; cases h
    | false => rw [q] at h; exact .tail _ (relab_local h)
  · rw [List.lookup_cons] at h
    cases q : (y == z) with
    | true => rw [q] at h; cases h; rw [beq_iff_eq.mp q]; exact .head _
    | false => rw [q] at h; exact .tail _ (relab_local h)
theorem compFm_good (g : Good c n f fr) (R : c.Rel f ρ σ fr z s) (ok : CompOk scope f.env.scope x) {C : Nat} (hC : s.heap.objs.size <= C) : Good c n (compFm f scope C) (restC σ s (closOf scope.names f.env.cells [])) := by
 have hfr := g.frameC R ok
 have nm := closOf_names f.env.cells scope.names []
 exact {
  ok := g.ok
  base := fun a o e => by
   have h1 := g.base a o e
   exact restC_of (fun hf => by have := (R.apart a hf).1; rw [h1] at this; cases this) (fun y hy => by have := (R.frame.2 _ _ (clos_mem g ok hy).1).1; rw [h1] at this; cases this) (g.keep R a o e)
  apart := fun a ha => by
   refine eEA (List.mem_filterMap.mp ha) fun env he hf => ?_
   refine eAEEAAA (hfr env he) fun _ L o hL _ _ hb => ?_
   rw [hL] at hf; cases hf; exact hb
  K := g.K
  top := g.top
  kind := ok.kind
  globals := g.globals
  celled := fun y hy => by
   have h1 := relab_cell ok.nocell hy
   have h2 : (y, (f.env.cells.lookup y).getD 0) ∈ closOf scope.names f.env.cells [] := mem_closOf.mpr (.inr ⟨h1, rfl⟩)
   show ((closOf scope.names f.env.cells []).lookup y).isSome = true
   cases e : (closOf scope.names f.env.cells []).lookup y with
   | some v => rfl
   | none =>
    have : ∀ (l : List (Str × Nat)), l.lookup y = none -> ∀ v, (y, v) ∉ l := by
     intro l
     induction l with
     | nil => intro _ v h; cases h
     | cons p r ih =>
      obtain ⟨z', w'⟩ := p
      intro hl v hv
      rw [List.lookup_cons] at hl
      cases q : (y == z') with
      | true => rw [q] at hl; cases hl
      | false =>
       rw [q] at hl
       rcases List.mem_cons.mp hv with hv | hv
       · cases hv; simp at q
       · exact ih hl v hv
    exact absurd h2 (this _ e _)
  cellk := fun y k hy q => by
   refine eA3 (clos_mem g ok hy) fun h1 h2 h3 h4 => ?_
   rcases ok.loc _ (relab_local q) rfl with q | q
   · exact h3 q
   · exact h4 q
  cellnd := by
   have hn1 : ((closOf scope.names f.env.cells []).map (·.1)).Nodup := by
    rw [nm]; simp only [List.map_nil, List.append_nil]
    exact (List.reverse_perm _).symm.nodup ok.nd
   refine (iA2 ?_ hn1 (fun y k hy q => ?_))
   · show ((closOf scope.names f.env.cells []).map (·.2)).Nodup
     have inj : ∀ y y' a, (y, a) ∈ closOf scope.names f.env.cells [] -> (y', a) ∈ closOf scope.names f.env.cells [] -> y = y' := by
      intro y y' a h1 h2
      have h1 := (clos_mem g ok h1).1
      have h2 := (clos_mem g ok h2).1
      have : ∀ (l : List (Str × Nat)), (l.map (·.2)).Nodup -> (y, a) ∈ l -> (y', a) ∈ l -> y = y' := by
       intro l
       induction l with
       | nil => intro _ h; cases h
       | cons p r ih =>
        intro hn ha hb
        simp only [List.map_cons, List.nodup_cons] at hn
        rcases List.mem_cons.mp ha with ha | ha <;> rcases List.mem_cons.mp hb with hb | hb
        · rw [<- ha] at hb; cases hb; rfl
        · exact absurd (Mn (iEA _ hb (by rw [<- ha]))) hn.1
        · exact absurd (Mn (iEA _ ha (by rw [<- hb]))) hn.1
        · exact ih hn.2 ha hb
      exact this _ g.cellnd.1 h1 h2
     have : ∀ (l : List (Str × Nat)), (l.map (·.1)).Nodup -> (∀ y y' a, (y, a) ∈ l -> (y', a) ∈ l -> y = y') -> (l.map (·.2)).Nodup := by
      intro l
      induction l with
      | nil => intro _ _; simp
      | cons p r ih =>
       obtain ⟨y, a⟩ := p
       intro hn hi
       simp only [List.map_cons, List.nodup_cons] at hn ⊢
       refine ⟨fun hm => ?_, ih hn.2 fun y1 y2 a' h1 h2 => hi y1 y2 a' (.tail _ h1) (.tail _ h2)⟩
       refine eEA (Mm hm) fun z1' hp e => ?_; obtain ⟨y', a'⟩ := z1'
       dsimp only at e
       subst e
       have := hi y y' a' (.head _) (.tail _ hp)
       subst this
       exact hn.1 (Mn (iEA _ hp rfl))
     exact this _ hn1 inj
   · have h1 := R.cel_lt (clos_mem g ok hy).1
     exact absurd (Nat.lt_of_lt_of_le h1 hC) (by rw [show k = C from q]; exact Nat.lt_irrefl _)
  builtins := g.builtins
  room := g.room
  units := g.units
  frames := g.frames
  topk := g.topk
  low := g.low
  slots := fun a ha => .inr ha
  topL := by
   refine eAEEAAA (hfr f.top (.head _)) fun _ L o hL hr hd hb => ?_
   exact (iEAA L hL (.inr (iAEA (List.mem_filterMap.mpr (iEA f.top (.head _) hL)) o hr hd)) hb)
  slotIn := fun a ha => by
   refine eEA (List.mem_filterMap.mp ha) fun env he hf => ?_
   refine eAEEAAA (hfr env he) fun _ L o hL hr _ _ => ?_
   rw [hL] at hf; cases hf; exact ⟨o, hr⟩
  home := g.home
  outer := fun env he => by
   refine eAEEAAA (hfr env (.tail _ he)) fun h1 L o hL hr hd hb => ?_
   exact (iAEEAAA h1 L o hL (List.mem_filterMap.mpr (iEA env (.tail _ he) hL)) hr hd) }
theorem compFm_rel (g : Good c n f fr) (R : c.Rel f ρ σ fr z s) (ok : CompOk scope f.env.scope x) (h0 : ρ (".0" : Str) = none) {C : Nat} (hC : s.heap.objs.size <= C) {h' : Heap} {tk : Nat} (kp : ∀ b o, s.heap.get? b = some o -> h'.get? b = some o) (hn : h'.Ns C fun _ => none) :
 c.Rel (compFm f scope C) (fun y => if y = x then none else ρ y) σ (restC σ s (closOf scope.names f.env.cells [])) z { s with heap := h', toks := tk } where
 same := R.same
 keep := fun a o e => (iEA o.slots (kp a o (restC_some e)) (fun _ => rfl))
 objs := fun a t mo e => (R.objs a t mo e).keeps kp
 wf := R.wf
 apart := fun a hf => (iA2 (by unfold restC; rw [if_pos (.inl hf)]) (Nat.ne_of_lt (Nat.lt_of_lt_of_le (R.foot_lt hf) hC)) (fun y k hy => (R.apart a hf).2.2 y k (clos_mem g ok hy).1))
 ns := ⟨_, hn, fun y hy => by
  rcases ok.loc _ (relab_local hy) rfl with q | q
  · dsimp only at q; subst q; rw [if_pos rfl]; trivial
  · dsimp only at q; subst q; rw [h0]; split <;> trivial⟩
 cel := fun y k hy => by
  refine eA3 (clos_mem g ok hy) fun h1 h2 h3 _ => ?_
  refine eEEA (R.cel y k h1) fun o v e r => ?_
  refine (iEEA o v (kp _ _ e) ?_)
  rw [if_neg h3]; exact r
 frame := ⟨restC_none hC, fun y k hy => ⟨by unfold restC; rw [if_pos (.inr ⟨y, hy⟩)], by
  have := Nat.lt_of_lt_of_le (R.cel_lt (clos_mem g ok hy).1) hC
  exact Nat.ne_of_lt this⟩⟩
 kl := R.kl
theorem Rel.backC (g : Good c n f fr) (R : c.Rel f ρ σ fr z s) (ok : CompOk scope f.env.scope x) {C : Nat} {ρ' : Lo} {σ' : Hp} {s' : Shared} (R' : c.Rel (compFm f scope C) ρ' σ' (restC σ s (closOf scope.names f.env.cells [])) z s') (hρ : ∀ y, y ≠ x -> ρ' y = ρ y) : c.Rel f ρ σ' fr z s' := by
 have nf : ∀ {a : Nat} {o : Obj}, fr a = some o -> ¬ Foot σ a := fun e h => by have := (R.apart _ h).1; rw [e] at this; cases this
 have nL : ¬ Foot σ f.env.locals := fun h => (R.apart _ h).2.1 rfl
 have nC : ∀ {x k}, (x, k) ∈ f.env.cells -> ¬ Foot σ k := fun hk h => (R.apart _ h).2.2 _ _ hk rfl
 have frc : ∀ {a : Nat} {o : Obj}, fr a = some o -> ∀ y, (y, a) ∉ closOf scope.names f.env.cells [] := fun e y hy => by have := (R.frame.2 _ _ (clos_mem g ok hy).1).1; rw [e] at this; cases this
 have Lc : ∀ y, (y, f.env.locals) ∉ closOf scope.names f.env.cells [] := fun y hy => (R.frame.2 _ _ (clos_mem g ok hy).1).2 rfl
 refine eEA R.ns fun m z1' hm => ?_; obtain ⟨oL, es, ep, h1, h2⟩ := z1'
 refine ⟨R'.same, fun a o e => ?_, R'.objs, R'.wf, fun a hf => (iA2 ?_ ?_ (fun y k hk => ?_)), ?_, fun y k hk => ?_, R.frame, R'.kl⟩
 · refine eEA (R.keep a o e) fun sl e1 e2 => ?_
   refine eEA (R'.keep a _ (restC_of (nf e) (frc e) e1)) fun sl' e3 e4 => ?_
   refine (iEA sl' e3 (fun ha => ?_))
   rw [e4 fun hm => ?_, <- e2 ha]
   rcases g.slots a hm with rfl | h
   · have := R.frame.1; rw [show fr f.L = fr f.env.locals from rfl, e] at this; cases this
   · exact ha h
 · cases e : fr a with
   | none => rfl
   | some o =>
    refine eEA (R.keep a o e) fun sl e1 _ => ?_
    have := (R'.apart a hf).1
    rw [restC_of (nf e) (frc e) e1] at this; cases this
 · intro q
   have := (R'.apart a hf).1
   rw [q, restC_of nL Lc h1] at this; cases this
 · intro q
   subst q
   by_cases hy : ∃ y', (y', a) ∈ closOf scope.names f.env.cells []
   · obtain ⟨y', hy'⟩ := hy; exact (R'.apart a hf).2.2 y' a hy' rfl
   · refine eEEA (R.cel y a hk) fun o v e1 _ => ?_
     have := (R'.apart a hf).1
     rw [restC_of (nC hk) (fun y' h => hy ⟨y', h⟩) e1] at this; cases this
 · refine eEA (R'.keep _ _ (restC_of nL Lc h1)) fun sl e1 _ => ?_
   exact (iEA m (iE3 _ es ep ⟨e1, h2⟩) hm)
 · by_cases hy : ∃ y', (y', k) ∈ closOf scope.names f.env.cells []
   · obtain ⟨y', hy'⟩ := hy
     have h3 := clos_mem g ok hy'
     have : y' = y := by
      have : ∀ (l : List (Str × Nat)), (l.map (·.2)).Nodup -> (y', k) ∈ l -> (y, k) ∈ l -> y' = y := by
       intro l
       induction l with
       | nil => intro _ h; cases h
       | cons p r ih =>
        intro hn ha hb
        simp only [List.map_cons, List.nodup_cons] at hn
        rcases List.mem_cons.mp ha with ha | ha <;> rcases List.mem_cons.mp hb with hb | hb
        · rw [<- ha] at hb; cases hb; rfl
        · exact absurd (Mn (iEA _ hb (by rw [<- ha]))) hn.1
        · exact absurd (Mn (iEA _ ha (by rw [<- hb]))) hn.1
        · exact ih hn.2 ha hb
      exact this _ g.cellnd.1 h3.1 hk
     subst this
     refine eEEAA (R'.cel y' k hy') fun o v e1 d r => ?_
     rw [hρ y' h3.2.2.1] at r
     exact (iEEAA o v e1 d r)
   · refine eEEAA (R.cel y k hk) fun o v e1 d r => ?_
     refine eEA (R'.keep _ _ (restC_of (nC hk) (fun y' h => hy ⟨y', h⟩) e1)) fun sl e2 _ => ?_
     exact (iEEAA _ v e2 d r)
end
end Mine
open PySem PySem.W PyProof.Rows
namespace Mine
def WTs (c : Cx) (i : Ix) : List Expr -> Lo -> (Bool -> Hp -> Prop) -> EX -> Hp -> Prop
 | [], _, Q, _, σ => Q true σ
 | [t], ρ, Q, X, σ => WT c i t ρ Q X σ
 | _, _, _, _, _ => False
def WComp (c : Cx) (i : Ix) (x : Str) (elt : Expr) (ifs : List Expr) (still : Hp -> Prop) (Q : List MV -> Hp -> Prop) (ρ : Lo) : List MV -> List MV -> Hp -> Prop
 | [], acc, σ => still σ /\ Q acc σ
 | v :: vs, acc, σ => still σ /\ WTs c i ifs (ρ.put x v) (fun b σ₁ => if b then WE c i elt (ρ.put x v) (fun u σ₂ => WComp c i x elt ifs still Q ρ vs (acc ++ [u]) σ₂) noX σ₁ else WComp c i x elt ifs still Q ρ vs acc σ₁) noX σ
theorem noX_elim {c : Cx} {f : Fm} {fr : Nat -> Option Obj} {z : Shared} {ρ : Lo} {v : Value} {s : Shared} {P : Prop} (h : XPost c f fr z (noX.at ρ) v s) : P := by obtain ⟨_, _, _, _, _, _, _, _, q⟩ := h; exact q.elim
section
variable {c : Cx} {i : Ix} {ρ : Lo} {σ : Hp} {f : Fm} {fr : Nat -> Option Obj} {z s : Shared} {scope : Scope} {x : Str}
abbrev Ix.comp (i : Ix) (scope : Scope) : Ix := ⟨i.n, i.hn, relab scope i.sc⟩
theorem comp_code {px : Pos} {elt iter : Expr} {ifs : List Expr} {pos : Pos} {I : Nat} {It : Nat -> Heap -> Prop} {items : List MV} {still : Hp -> Prop} (T : Steps c I It items still) {Qc : List MV -> Hp -> Prop} {E : Value -> Shared -> Prop}
 (dn : ∀ {k f' ρ' σ' s'} {Q' : Option Value -> Shared -> Prop} {E' : Value -> Shared -> Prop}, c.Rel f' ρ' σ' (restC σ s (closOf scope.names f.env.cells [])) z s' -> still σ' -> It k s'.heap -> items[k]? = none -> (∀ h' tk, (∀ a o, a ≠ I -> s'.heap.get? a = some o -> h'.get? a = some o) -> Q' none { s' with heap := h', toks := tk }) -> wpAny c.M f.A (pyNext (.ref I)) Q' E' s')
 (a : f.env.scope = i.sc) (b : i.hn = true -> f.A.handled = none) (g : Good c i.n f fr) (R : c.Rel f ρ σ fr z s) (ok : CompOk scope f.env.scope x) (h0 : ρ (".0" : Str) = none) {h₂ : Heap} (kp : ∀ b o, s.heap.get? b = some o -> h₂.get? b = some o)
 (hI : s.heap.objs.size <= I) (hI2 : I < h₂.objs.size) (hz : items.length <= 1000000) (it : It 0 h₂) (h : WComp c (i.comp scope) x elt ifs still Qc ρ items [] σ) {RR : Value -> Nat -> Result -> Shared -> Prop}
 (hRR : ∀ D C vs σ' its k m s', c.Rel f ρ σ' fr z s' -> s'.heap.get? D = some (listOf its k) -> All2 MV.Is vs its.toList -> Alien f σ' fr D -> Alien f σ' fr C -> D ≠ C -> s'.heap.Ns C m -> Qc vs σ' -> RR (.ref D) C (.ok .next) s') :
 wpAny c.M f.A (newList []) (fun acc s₃ => wpAny c.M f.A (newFunctionEnv scope f.env.globals (closOf scope.names f.env.cells []) [] f.env.qual none .none (some f.env)) (fun cenv s₄ =>
  codeAny c.M f.A (.compStart (.ListComp elt [⟨.Name x px, iter, ifs, 0⟩] scope pos) 0 (.ref I) acc { cenv with scope := relabel scope f.env }) (RR acc cenv.locals) s₄) E s₃) E { s with heap := h₂ } := by
 refine wpAny_newObj_type (wpAny_newFunctionEnv ok.nocell (by intro y hy; simp at hy) (fun h₁ hns₁ hsb₁ => ?_) ok.kind)
 dsimp only at hns₁ hsb₁ ⊢
 generalize hH2 : h₂.push { cls := .type "list", dict := none, data := .seq ([] : List Value).toArray } = H2 at hns₁ hsb₁ ⊢
 have hsz : s.heap.objs.size < h₂.objs.size := Nat.lt_of_le_of_lt hI hI2
 generalize hD : h₂.objs.size = D at *
 have hDs : s.heap.objs.size <= D := Nat.le_of_lt hsz
 have hCeq : H2.objs.size = D + 1 := by rw [<- hH2, Heap.size_push, hD]
 generalize hCC : H2.objs.size = C at *
 have hDC : D ≠ C := by rw [hCeq]; exact (Nat.succ_ne_self D).symm
 have hCs : s.heap.objs.size <= C := by rw [hCeq]; exact Nat.le_succ_of_le hDs
 have old : ∀ b o, h₂.get? b = some o -> h₁.get? b = some o := fun b o e => (hsb₁.2 b (by have h5 : b < D := hD ▸ Heap.lt_size e; have h6 : b < C := (by rw [hCeq]; exact Nat.lt_succ_of_lt h5); exact Nat.ne_of_lt h6)).trans (Heap.get?_push_of_some _ (hH2 ▸ Heap.get?_push_of_some _ e))
 have hacc : h₁.get? D = some (listOf #[] 0) := (hsb₁.2 D (by show D ≠ C; exact hDC)).trans (Heap.get?_push_of_some _ (by rw [<- hH2, <- hD]; exact Heap.get?_push_size _ rfl))
 have G' := compFm_good g R ok hCs
 have R0 : c.Rel (compFm f scope C) (fun y => if y = x then none else ρ y) σ (restC σ s (closOf scope.names f.env.cells [])) z { s with heap := h₁, toks := s.toks + ([] : List (Str × Value)).length } := compFm_rel g R ok h0 hCs (fun b o e => old b o (kp b o e)) hns₁
 have frN : ∀ a, s.heap.objs.size <= a -> restC σ s (closOf scope.names f.env.cells []) a = none := fun a ha => restC_none ha
 have nsl : ∀ a, s.heap.objs.size <= a -> a ∉ (compFm f scope C).slotted := fun a ha h => by obtain ⟨o, e⟩ := G'.slotIn a h; rw [frN a ha] at e; cases e
 have clt : ∀ y k, (y, k) ∈ (compFm f scope C).env.cells -> k < s.heap.objs.size := fun y k hy => R.cel_lt (clos_mem g ok hy).1
 have mkAl : ∀ {σ' : Hp} {a : Nat}, s.heap.objs.size <= a -> a ≠ C -> ¬ Foot σ' a -> Alien (compFm f scope C) σ' (restC σ s (closOf scope.names f.env.cells [])) a := fun ha hc hf =>
  ⟨frN _ ha, hf, hc, fun y k hy q => by have h7 := clt y k hy; rw [<- q] at h7; exact absurd h7 (Nat.not_lt.mpr ha)⟩
 have hIC : I ≠ C := by rw [hCeq]; exact Nat.ne_of_lt (Nat.lt_succ_of_lt hI2)
 have hID : I ≠ D := Nat.ne_of_lt hI2
 have sc' : (compFm f scope C).env.scope = (i.comp scope).sc := by show relabel scope f.env = relab scope i.sc; rw [<- a]; rfl
 have hxl : (i.comp scope).sc.names.lookup x = some .local := by rw [<- sc']; exact lookup_relabel_local ok.x
 have loop : codeAny c.M f.A (.compLoop (.ListComp elt [⟨.Name x px, iter, ifs, 0⟩] scope pos) 0 (.ref I) (.ref D) (compFm f scope C).env) (RR (.ref D) C) { s with heap := h₁, toks := s.toks + ([] : List (Str × Value)).length } := by
  refine codeAny_compLoop_tests (fun m s' => ∃ j ρ' σ' vs its k, m + j = items.length /\ It j s'.heap /\ c.Rel (compFm f scope C) ρ' σ' (restC σ s (closOf scope.names f.env.cells [])) z s' /\ (∀ y, y ≠ x -> ρ' y = ρ y) /\ ¬ Foot σ' I /\ ¬ Foot σ' D /\
   s'.heap.get? D = some (listOf its k) /\ All2 MV.Is vs its.toList /\ its.size <= j /\ WComp c (i.comp scope) x elt ifs still Qc ρ (items.drop j) vs σ') ?_ items.length
   (iE6 0 _ σ ([]) (#[]) 0 (iA9 (by simp) (T.move _ _ _ it fun o e => old _ _ e) R0 (fun y hy => if_neg hy) (fun hf => absurd (R.foot_lt hf) (Nat.not_lt.mpr hI)) (fun hf => absurd (R.foot_lt hf) (Nat.not_lt.mpr hDs)) hacc (.nil) (Nat.zero_le _) (by simpa using h)))
  rintro m s' ⟨j, ρ', σ', vs, its, k, hmj, it', R', hρ, fI, fD, hl, hv, hits, h'⟩
  have alI := mkAl hI hIC fI
  have alD := mkAl hDs hDC fD
  cases e : items[j]? with
  | none =>
   have el : items.drop j = [] := by rw [List.drop_eq_nil_iff]; exact List.getElem?_eq_none_iff.mp e
   rw [el] at h'
   refine dn R' h'.1 it' e fun h₃ tk k₃ => ?_
   have R3 := R'.alien (tk := tk) alI (Alien.none G' R' alI) k₃
   refine eEA R3.ns fun m' hn' _ => ?_
   have fC : ¬ Foot σ' C := fun hf => (R3.apart C hf).2.1 rfl
   exact hRR D C vs σ' its k m' _ (Rel.backC g R ok R3 hρ) (k₃ _ _ (Ne.symm hID) hl) hv (R.alienAt hDs fD) (R.alienAt hCs fC) hDC hn' h'.2
  | some v =>
   obtain ⟨hlt, rfl⟩ := Gs e
   rw [List.drop_eq_getElem_cons hlt] at h'
   refine T.item R' h'.1 it' e fun u h₃ tk is it₃ k₃ => ?_
   have R3 := R'.alien (tk := tk) alI (Alien.none G' R' alI) k₃
   have hl3 : h₃.get? D = some (listOf its k) := k₃ _ _ (Ne.symm hID) hl
   refine eEA (T.obj _ _ it₃) fun oI hoI _ => ?_
   have R4 := R3.add alI hoI
   have alD4 : Alien (compFm f scope C) σ' (addFr (restC σ s (closOf scope.names f.env.cells [])) I oI) D := ⟨by rw [addFr_ne (Ne.symm hID)]; exact alD.fr, alD.foot, alD.L, alD.cells⟩
   have R5 := R4.add alD4 hl3
   have G5 := (G'.add (o := oI) alI.fr).add (o := listOf its k) alD4.fr
   have eρ : ρ'.put x items[j] = ρ.put x items[j] := by
    funext y
    unfold Lo.put
    by_cases q : y = x
    · rw [if_pos q, if_pos q]
    · rw [if_neg q, if_neg q]; exact hρ y q
   refine wpAny_assign_Name (wpAny_mono (WSt.local (i := i.comp scope) (Q := fun ρ₁ σ₁ => ρ₁ = ρ.put x items[j] /\ σ₁ = σ') (X := noSX) hxl ⟨eρ, rfl⟩ u is (compFm f scope C) _ z _ sc' b G5 R5) (fun _ s₆ ⟨ρ₆, σ₆, R6, e1, e2⟩ => ?_) fun _ _ x => noSX_elim x)
   subst e1; subst e2
   -- back from the frames of the iterator and the list
   have out : ∀ {σ'' : Hp} {s'' : Shared}, c.Rel (compFm f scope C) (ρ.put x items[j]) σ'' (addFr (addFr (restC σ s (closOf scope.names f.env.cells [])) I oI) D (listOf its k)) z s'' ->
    c.Rel (compFm f scope C) (ρ.put x items[j]) σ'' (restC σ s (closOf scope.names f.env.cells [])) z s'' /\ Alien (compFm f scope C) σ'' (restC σ s (closOf scope.names f.env.cells [])) I /\ Alien (compFm f scope C) σ'' (restC σ s (closOf scope.names f.env.cells [])) D /\ s''.heap.get? I = some oI /\ s''.heap.get? D = some (listOf its k) := fun R7 => by
    refine eA2 (Rel.drop alD4.fr R7 (nsl D hDs)) fun R8 al8 ho8 => ?_
    refine eA2 (Rel.drop alI.fr R8 (nsl I hI)) fun R9 al9 ho9 => ?_
    exact (iA4 R9 al9 (mkAl hDs hDC al8.foot) ho9 ho8)
   have eρ2 : ∀ y, y ≠ x -> (ρ.put x items[j]) y = ρ y := fun y hy => by unfold Lo.put; rw [if_neg hy]
   have again : ∀ {σ'' : Hp} {s'' : Shared} {vs' : List MV} {its' : Array Value} {k' : Nat}, c.Rel (compFm f scope C) (ρ.put x items[j]) σ'' (restC σ s (closOf scope.names f.env.cells [])) z s'' -> ¬ Foot σ'' I -> ¬ Foot σ'' D -> s''.heap.get? I = some oI -> s''.heap.get? D = some (listOf its' k') -> All2 MV.Is vs' its'.toList -> its'.size <= j + 1 -> WComp c (i.comp scope) x elt ifs still Qc ρ (items.drop (j + 1)) vs' σ'' ->
    ∃ m', m' < m /\ ∃ j ρ' σ' vs its k, m' + j = items.length /\ It j s''.heap /\ c.Rel (compFm f scope C) ρ' σ' (restC σ s (closOf scope.names f.env.cells [])) z s'' /\ (∀ y, y ≠ x -> ρ' y = ρ y) /\ ¬ Foot σ' I /\ ¬ Foot σ' D /\
   s''.heap.get? D = some (listOf its k) /\ All2 MV.Is vs its.toList /\ its.size <= j /\ WComp c (i.comp scope) x elt ifs still Qc ρ (items.drop j) vs σ' := fun R9 f1 f2 o1 o2 hv' hz' hw => by
    refine ⟨m - 1, by omega, j + 1, _, _, _, _, _, by omega, T.move _ _ _ it₃ fun o' e' => ?_, R9, eρ2, f1, f2, o2, hv', hz', hw⟩
    rw [hoI] at e'; cases e'; exact o1
   have tests : ∀ {Qt : Bool -> Hp -> Prop} {s₆ : Shared}, c.Rel (compFm f scope C) (ρ.put x items[j]) σ₆ (addFr (addFr (restC σ s (closOf scope.names f.env.cells [])) I oI) D (listOf its k)) z s₆ -> WTs c (i.comp scope) ifs (ρ.put x items[j]) Qt noX σ₆ -> ∀ E', wpAny c.M f.A (forIn ifs true fun c r => if r = true then do let ok <- isTrue c (compFm f scope C).env (eval c (compFm f scope C).env); pure (ForInStep.yield ok) else pure (ForInStep.yield r))
    (fun ok s₇ => ∃ σ₇, c.Rel (compFm f scope C) (ρ.put x items[j]) σ₇ (addFr (addFr (restC σ s (closOf scope.names f.env.cells [])) I oI) D (listOf its k)) z s₇ /\ Qt ok σ₇) E' s₆ := fun R6 ht E' => by
    rcases ifs with _ | ⟨t, _ | ⟨t', r⟩⟩
    · exact wpAny_tests_nil (iEA _ R6 ht)
    · refine wpAny_tests_one (wuse (ht (compFm f scope C) _ z _ sc' b G5 R6) (fun bb s₇ b' σ₇ eb R7 hq => ?_) fun _ _ x => noX_elim x)
      subst eb
      exact (iEA σ₇ R7 hq)
    · exact ht.elim
   refine wpAny_mono (tests R6 h'.2 _) (fun okb s₇ ⟨σ₇, R7, hq⟩ => ?_) fun _ _ x => x
   cases okb with
   | false =>
    rw [if_neg Bool.false_ne_true] at hq ⊢
    refine eA4 (out R7) fun R9 al9 al8 ho9 ho8 => ?_
    exact again R9 al9.foot al8.foot ho9 ho8 hv (Nat.le_succ_of_le hits) hq
   | true =>
    rw [if_pos rfl] at hq ⊢
    refine wuse (hq (compFm f scope C) _ z _ sc' b G5 R7) (fun y s₈ ym σ₈ isy R8 hq8 => ?_) fun _ _ x => noX_elim x
    refine eA4 (out R8) fun R9 al9 al8 ho9 ho8 => ?_
    refine append_at ho8 (fun h₉ hs₉ hl₉ => ?_) (size_ok (by omega))
    have R10 := R9.alien (tk := s₈.toks) al8 (Alien.none G' R9 al8) (h' := h₉) fun a o ne e => (hs₉.2 a ne).trans e
    refine again R10 al9.foot al8.foot ((hs₉.2 I hID).trans ho9) hl₉ ?_ (by rw [Array.size_push]; omega) hq8
    rw [Array.toList_push]
    exact hv.append (.cons isy .nil)
 exact codeAny_compStart_list loop (T.self (k := 0) (T.move _ _ _ it fun o e => old _ _ e) loop)
theorem Rel.adopt (R : c.Rel f ρ σ fr z s) {D : Nat} {its : Array Value} {k : Nat} {vs : List MV} (t : Nat) (al : Alien f σ fr D) (ho : s.heap.get? D = some (listOf its k)) (hv : All2 MV.Is vs its.toList) : c.Rel f ρ (σ.put D t (.list vs)) fr z s where
 same := R.same
 keep := R.keep
 objs := fun a t' mo e => by
  by_cases q : a = D
  · subst q; rw [Hp.put_self] at e; cases e; exact (iEEA its k ho hv)
  · rw [Hp.put_ne _ _ _ q] at e; exact R.objs a t' mo e
 wf := fun a t' C fs e => by
  by_cases q : a + 1 = D
  · rw [q, Hp.put_self] at e; cases e
  · rw [Hp.put_ne _ _ _ q] at e
    by_cases q' : a = D
    · subst q'; exact absurd (.inr (iE3 _ _ _ e)) al.foot
    · rw [Hp.put_ne _ _ _ q']; exact R.wf a t' C fs e
 apart := fun a fa => by
  by_cases q : a = D
  · subst q; exact (iA2 al.fr al.L al.cells)
  · refine R.apart a ?_
    rcases fa with ⟨t₁, mo₁, fa, fk⟩ | ⟨t₁, C, fs, e⟩
    · rw [Hp.put_ne _ _ _ q] at fa; exact .of_some fa fk
    · by_cases q' : a + 1 = D
      · rw [q', Hp.put_self] at e; cases e
      · rw [Hp.put_ne _ _ _ q'] at e; exact .inr (iE3 _ _ _ e)
 ns := R.ns
 cel := R.cel
 frame := R.frame
 kl := fun a t' xs o e => by
  by_cases q : a = D
  · subst q; rw [Hp.put_self] at e; cases e
  · rw [Hp.put_ne _ _ _ q] at e; exact R.kl a t' xs o e
theorem Alien.sigma {n : Nat} (g : Good c n f fr) (R : c.Rel f ρ σ fr z s) {D : Nat} (al : Alien f σ fr D) : σ D = Option.none := by
 cases e : σ D with
 | none => rfl
 | some p => exact absurd e (Alien.none g R al p.1 p.2)
variable {X : EX}
theorem CompOk.names (ok : CompOk scope i.sc x) (hd0 : scope.names.lookup (".0" : Str) = some .local ∨ ∀ y ∈ scope.names, y.1 ≠ (".0" : Str)) : ∀ y ∈ scope.names, y.2 = .local -> scope.names.lookup y.1 = some .local := fun y hy e => by
 rcases ok.loc y hy e with q | q
 · rw [q]; exact ok.x
 · rcases hd0 with h | h
   · rw [q]; exact h
   · exact absurd q (h y hy)
theorem CompOk.clos (ok : CompOk scope f.env.scope x) {n : Nat} (g : Good c n f fr) : closureFor scope f.env = pure (closOf scope.names f.env.cells []) := closureFor_eq fun p hp e => g.celled p.1 (ok.free p hp e).1
theorem WE.comp {px : Pos} {elt iter : Expr} {ifs : List Expr} {pos : Pos} {Q : MV -> Hp -> Prop} (t : Nat) (hn : i.hn = true) (hs : NotSet iter) (hok : compOk scope i.sc x = true) (h0 : ρ (".0" : Str) = Option.none)
 (h : WE c i iter ρ (fun v σ₁ => ∃ xs still, Iterable σ₁ v xs still /\ xs.length <= 1000000 /\ WComp c (i.comp scope) x elt ifs still (fun vs σ₂ => ∀ D, σ₂ D = Option.none -> Q (.ref D) (σ₂.put D t (.list vs))) ρ xs [] σ₁) X σ) :
 WE c i (.ListComp elt [⟨.Name x px, iter, ifs, 0⟩] scope pos) ρ Q X σ := fun f fr z s a b g R => by
 have ok : CompOk scope f.env.scope x := by rw [a]; exact compOk_of hok
 show wpAny _ _ (eval _ _) _ _ _
 rw [eval_ListComp]
 refine wpAny_comprehension_free (use := Option.none) rfl (by intro x; exact hs _ x) (ok.clos g) ok.kind (by rw [a] at ok; exact ok.names (compOk_dot hok)) (wuse (h f fr z s a b g R) (fun u s₁ v σ₁ is R₁ q9 => ?_) fun _ _ x => x); obtain ⟨xs, still, itb, hz, h₁⟩ := q9
 refine iter_start R₁ itb is fun I It h₂ T hI hI2 kp it => ?_
 refine comp_code T (fun R' st it e hQ => T.done R' (b hn) st it e hQ) a b g R₁ ok h0 kp hI hI2 hz it h₁ (RR := fun acc C => compPost _ _ _ Option.none _ acc C) ?_
 intro D C vs σ' its k m s' R' hD hv alD alC hDC hnC hQ
 refine (iEA m hnC (fun h' hs' => ?_))
 have R'' := R'.alien (tk := s'.toks) alC (Alien.none g R' alC) (h' := h') fun a o ne e => (hs'.2 a ne).trans e
 exact (iEEAA (.ref D) _ rfl (Rel.adopt R'' t alD ((hs'.2 D hDC).trans hD) hv) (hQ D (Alien.sigma g R' alD)))
variable {X : SX}
end
end Mine
open PySem PySem.W PyProof.Rows
namespace Mine
theorem cellsFrom_gt : ∀ (names : List (Str × NameKind)) (n : Nat) (acc : List (Str × Nat)) (lo : Nat), lo < n -> (∀ p ∈ acc, lo < p.2) -> ∀ p ∈ cellsFrom n names acc, lo < p.2 := by
 intro names
 induction names with
 | nil => intro n acc lo _ h; exact h
 | cons q r ih =>
  obtain ⟨y, k⟩ := q
  intro n acc lo hlo h
  unfold cellsFrom
  by_cases hk : (k == .cell) = true
  · rw [if_pos hk]
    refine ih (n + 1) _ lo (by omega) fun p hp => ?_
    rcases List.mem_cons.mp hp with rfl | hp
    · exact hlo
    · exact h p hp
  · rw [if_neg hk]; exact ih n acc lo hlo h
def lawHp (l : Nat) (ns : List Int) (o : Obj) : Hp := fun a => if a = l then some (0, .klist (ns.map .int) o) else none
theorem ints_all2 {vs : List Value} {ns : List Int} (h : IntsAre vs ns) : All2 MV.Is (ns.map .int) vs := by
 induction h with
 | nil => exact .nil
 | cons t ts _ ih => exact .cons ⟨_, rfl⟩ ih
def lawFm (name : Str) (scope : Scope) (L fa : Nat) (cd : Value) (h : Heap) : Fm where
 A := callerA.deeper (envOfC name scope L fa cd)
 env := envOfC name scope L fa cd
 top := envOfC name scope L fa cd
 outer := []
 slotted := []
 base := h
theorem law_enter {c : Cx} (ok : CxOk c) {s₁ : Shared} {fa : Nat} {o : Obj} {name : Str} {params : Arguments} {body : List Stmt} {scope : Scope} {p : Str} {pm cd doc dV kV : Value} (ho : s₁.heap.get? fa = some o)
 (hd : o.data = .func { Calls.docDef name params body scope pm cd doc with defaults := dV, kwdefaults := kV }) (hcd : s₁.heap.CodeRec cd name) (KX : c.K.In s₁.heap) (T : Top c.p c.loose c.mean c.mg c.mb s₁.heap)
 (hbind : ∀ u : Value, bindArgs { Calls.docDef name params body scope pm cd doc with defaults := dV, kwdefaults := kV } ⟨[u], []⟩ = pure [(p, u)]) (hs : scopeOk scope [p] = true) {l : Nat} {vs : List Value} {ns : List Int} (hL : s₁.heap.IsList l vs.toArray) (hI : IntsAre vs ns)
 (h : ∀ ol, WSs c ⟨200, true, scope⟩ body (bindLo [p] [.ref l] fun _ => none) (fun m _ _ => m = .ret (.bool true)) noSX (lawHp l ns ol)) {P : Result -> Shared -> Prop}
 (hP : ∀ s', (∀ b o, s₁.heap.get? b = some o -> s'.heap.get? b = some o) -> s'.os = s₁.os -> s'.gens = s₁.gens -> P (.ok (.ret (.bool true))) s') : codeAny c.M callerA (.call (.ref fa) ⟨[.ref l], []⟩) P s₁ := by
 refine eA5 (scopeOk_of hs) fun hk hco hgen hps hcl hnd => ?_
 refine eE1 hL fun ol y0' => eA2 y0' fun hol hlc y1' => eE1 y1' fun nl hld => ?_; clear hL
 refine codeAny_call_function (by decide) ho hd hco hgen rfl hcd ?_
 rw [hbind (.ref l)]
 refine wpAny_pure ?_
 refine wpAny_newFunctionEnv_cells hk (fun x hx => ?_) fun env' he s' x => ?_
 · rw [List.mem_singleton] at hx
   subst hx
   exact (hps p (.head _)).imp id fun q => ⟨q, cellsFrom_some _ _ _ (.inl q)⟩
 · subst he
   refine ⟨T.nolimit.keeps x.toInCall.keep, codeAny_func ?_⟩
   have nm := cellsFrom_names scope.names 0 (s₁.heap.objs.size + 1) [] [] rfl
   have hk₁ := x.toInCall.keep
   have cellk : ∀ y k, (y, k) ∈ cellsFrom (s₁.heap.objs.size + 1) scope.names [] -> scope.names.lookup y ≠ some .local := fun y k hx => by
    have : y ∈ (cellsFrom 0 scope.names []).map (·.1) := by rw [nm]; exact Mn (iEA _ hx rfl)
    refine eEA (Mm this) fun p hp z1' => ?_; subst z1'
    exact hcl p hp
   have above : ∀ y k, (y, k) ∈ cellsFrom (s₁.heap.objs.size + 1) scope.names [] -> s₁.heap.objs.size < k := fun y k hx => cellsFrom_gt scope.names _ [] _ (by omega) (fun _ h => nomatch h) (y, k) hx
   have noBase : s₁.heap.get? s₁.heap.objs.size = none := by
    cases e : s₁.heap.get? s₁.heap.objs.size with
    | none => rfl
    | some o => exact absurd (Heap.lt_size e) (Nat.lt_irrefl _)
   have G : Good c 200 (lawFm name scope s₁.heap.objs.size fa cd s₁.heap) s₁.heap.get? := {
    ok := ok
    base := fun a o e => e
    apart := fun a ha => nomatch ha
    K := KX
    top := T
    kind := hk
    globals := rfl
    celled := fun y hy => cellsFrom_some _ _ _ (.inl hy)
    cellk := cellk
    cellnd := ⟨cellsFrom_lt _ _ _ (fun _ h => nomatch h) (by simp), by show ((cellsFrom (s₁.heap.objs.size + 1) scope.names []).map (·.1)).Nodup; rw [<- nm]; exact hnd, fun y k hy q => by
     have := above y k hy
     rw [show k = s₁.heap.objs.size from q] at this
     exact Nat.lt_irrefl _ this⟩
    builtins := rfl
    room := by show callerA.depth + 1 + 2 * 200 < recursionLimit; decide
    units := by show callerA.units + 3 + 40 * 200 < cLine; decide
    frames := rfl
    topk := (iA4 hk rfl rfl hgen hco)
    low := modules_low T.nolimit
    slots := fun a ha => by
     refine eEA (List.mem_filterMap.mp ha) fun env he hf => ?_
     rcases List.mem_cons.mp he with rfl | he
     · left; cases hf; rfl
     · cases he
    topL := (iEAA s₁.heap.objs.size rfl (.inl rfl) noBase)
    slotIn := fun a ha => nomatch ha
    home := rfl
    outer := fun env he => nomatch he }
   refine eE2 x.toInCall.same fun h₁ tk z1' => ?_; subst z1'
   have lay : ∀ a t mo, lawHp l ns ol a = some (t, mo) -> a = l /\ mo = .klist (ns.map .int) ol := fun a t mo e => by
    unfold lawHp at e
    split at e
    · cases e; exact ⟨by assumption, rfl⟩
    · cases e
   have noFoot : ∀ a, ¬ Foot (lawHp l ns ol) a := fun a hf => by
    rcases hf with ⟨t, mo, e, q⟩ | ⟨t, C, fs, e⟩
    · rw [(lay _ _ _ e).2] at q; cases q
    · have := (lay _ _ _ e).2; cases this
   have R : c.Rel (lawFm name scope s₁.heap.objs.size fa cd s₁.heap) (bindLo [p] [.ref l] fun _ => none) (lawHp l ns ol) s₁.heap.get? s₁ { s₁ with heap := h₁, toks := tk } := {
    same := (iA2 rfl rfl rfl)
    keep := fun a o e => (iEA o.slots (hk₁ a o e) (fun _ => rfl))
    objs := fun a t mo e => by
     obtain ⟨rfl, rfl⟩ := lay a t mo e
     exact (iA2 (hk₁ _ _ hol) hlc (iEEA _ nl hld (by simpa using ints_all2 hI)))
    wf := fun a t C fs e => by have := (lay _ _ _ e).2; cases this
    apart := fun a hf => absurd hf (noFoot a)
    ns := (iEA _ x.toInCall.ns (fun y hy => bindLo_local (ps := [p]) (as := [.ref l]) (us := [.ref l]) hy (.cons (show MV.Is (.ref l) (.ref l) from rfl) .nil) trivial))
    cel := fun y k hy => by
     refine eEA (x.cell y k (lookup_of_mem_nodup (nm ▸ hnd) hy)) fun o ho hd => ?_
     exact (iEEAA o _ ho hd (bindLo_cell (ps := [p]) (as := [.ref l]) (us := [.ref l]) (cellk y k hy) (.cons (show MV.Is (.ref l) (.ref l) from rfl) .nil) trivial))
    frame := ⟨noBase, fun y k hy => ⟨by
     cases e : s₁.heap.get? k with
     | none => rfl
     | some o => exact absurd (Nat.lt_trans (above y k hy) (Heap.lt_size e)) (Nat.lt_irrefl _), fun q => by
     have := above y k hy
     rw [show k = s₁.heap.objs.size from q] at this
     exact Nat.lt_irrefl _ this⟩⟩
    kl := fun a t xs o e => by
     obtain ⟨rfl, q⟩ := lay _ _ _ e
     cases q
     exact hol }
   refine wuse6 (h ol (lawFm name scope s₁.heap.objs.size fa cd s₁.heap) _ s₁ _ rfl (fun _ => rfl) G R) (fun fl s'' m ρ' σ' is R'' q => ?_) fun e s'' hx => noSX_elim hx
   subst q
   refine eEA is fun u z1' z2' => ?_; clear is; have is := z2'; clear z2'; subst z1'
   cases is
   refine hP s'' (fun b o e => ?_) R''.same.2.2 R''.same.1
   refine eEA (R''.keep b o e) fun sl e1 e2 => ?_
   rw [e1, e2 fun hm => nomatch hm]
end Mine
open PySem PySem.W PyProof.Rows
namespace Mine
set_option genInjectivity false in
structure Tab where
 glob : List (Str × MV)
 meth : List ((Nat × Str) × Nat)
 fld : List (Nat × Str)
 init : List (Nat × Nat)
 fns : List Nat
theorem lookup_mem {α β : Type} [BEq α] [LawfulBEq α] {l : List (α × β)} {x : α} {a : β} (h : l.lookup x = some a) : (x, a) ∈ l := by
 induction l with
 | nil => cases h
 | cons p r ih =>
  obtain ⟨y, b⟩ := p
  rw [List.lookup_cons] at h
  cases hy : (x == y) with
  | true => rw [hy] at h; cases h; rw [beq_iff_eq.mp hy]; exact .head _
  | false => rw [hy] at h; exact .tail _ (ih h)
def Tab.cx (t : Tab) (prog : Program) (w : World) (K : Frag) (p : Program) (loose : List Str) (mean : ExcName -> Option Value) (mg mb : Str -> Option Value) : Cx where
 prog := prog
 w := w
 K := K
 p := p
 loose := loose
 mean := mean
 mg := mg
 mb := mb
 glob := fun x => t.glob.lookup x
 meth := fun C x => t.meth.lookup (C, x)
 fld := fun C x => t.fld.contains (C, x)
 init := fun C => t.init.lookup C
 fns := fun a => t.fns.contains a
def methOk (K : Frag) (C : Nat) (x : Str) (a : Nat) : Prop := plainGet K C x = true /\ findIn K (.ref C) x = some (some (.ref a)) /\ isFn K (.ref a) = true /\ keepIn K (.ref a) = true
def fldOk (K : Frag) (C : Nat) (x : Str) : Prop := plainGet K C x = true /\ hasDictIn K C = true /\ findIn K (.ref C) x = some none /\ findIn K (.ref C) "__setattr__" = some (some (.builtin "object.__setattr__")) /\ plainOver K C = true /\ takerIn K C x = some none
def initOk (K : Frag) (C a : Nat) : Prop := makesIn K C = true /\ findIn K (.ref C) "__init__" = some (some (.ref a)) /\ isFn K (.ref a) = true /\ keepIn K (.ref C) = true
def globOk (K : Frag) (x : Str) (v : MV) : Prop := (x == ("__debug__" : Str)) = false /\ ((∃ u, nsIn K mainGlobals x = some (some u) /\ v.Is u) ∨ (nsIn K mainGlobals x = some none /\ x ≠ "__name__" /\ ∃ u, bootBuiltins x = some u /\ v.Is u))
theorem Tab.ok {t : Tab} {prog : Program} {w : World} {K : Frag} {p : Program} {loose : List Str} {mean : ExcName -> Option Value} {mg mb : Str -> Option Value}
 (hg : ∀ q ∈ t.glob, globOk K q.1 q.2) (hm : ∀ q ∈ t.meth, methOk K q.1.1 q.1.2 q.2) (hf : ∀ q ∈ t.fld, fldOk K q.1 q.2) (hi : ∀ q ∈ t.init, initOk K q.1 q.2) (hn : ∀ a ∈ t.fns, keepIn K (.ref a) = true) : CxOk (t.cx prog w K p loose mean mg mb) where
 glob := fun x v h => hg (x, v) (mem_lookup h)
 meth := fun C x a h => hm ((C, x), a) (lookup_mem h)
 fld := fun C x h => hf (C, x) (List.contains_iff_mem.mp h)
 init := fun C a h => hi (C, a) (lookup_mem h)
 fns := fun a h => hn a (List.contains_iff_mem.mp h)
theorem all_nil {α : Type} {P : α -> Prop} : ∀ q ∈ ([] : List α), P q := fun _ h => nomatch h
theorem all_cons {α : Type} {P : α -> Prop} {a : α} {l : List α} (h : P a) (t : ∀ q ∈ l, P q) : ∀ q ∈ a :: l, P q := fun q hq => by
 rcases List.mem_cons.mp hq with rfl | hq
 · exact h
 · exact t q hq
theorem globRef {K : Frag} {x : Str} {a : Nat} (h0 : (x == ("__debug__" : Str)) = false) (h : nsIn K mainGlobals x = some (some (.ref a))) : globOk K x (.ref a) := ⟨h0, .inl (iEA _ h rfl)⟩
theorem globInt {K : Frag} {x : Str} {n : Int} {t : Tok} (h0 : (x == ("__debug__" : Str)) = false) (h : nsIn K mainGlobals x = some (some (.int n t))) : globOk K x (.int n) := ⟨h0, .inl ⟨_, h, t, rfl⟩⟩
theorem globStr {K : Frag} {x : Str} {n : Str} {t : Tok} (h0 : (x == ("__debug__" : Str)) = false) (h : nsIn K mainGlobals x = some (some (.str n t))) : globOk K x (.str n) := ⟨h0, .inl ⟨_, h, t, rfl⟩⟩
theorem globBuiltin {K : Frag} {x : Str} {u : Value} (h0 : (x == ("__debug__" : Str)) = false) (h : nsIn K mainGlobals x = some none) (h1 : x ≠ "__name__") (h2 : bootBuiltins x = some u) : globOk K x (.con u) := ⟨h0, .inr (iA2 h h1 (iEA u h2 rfl))⟩
theorem Lo.put_self {ρ : Lo} {x : Str} {v : MV} : (ρ.put x v) x = some v := by simp [Lo.put]
theorem Lo.put_ne {ρ : Lo} {x y : Str} {v : MV} {r : Option MV} (h : (y == x) = false) (e : ρ y = r) : (ρ.put x v) y = r := by
 rw [beq_eq_false_iff_ne] at h
 simp [Lo.put, h, e]
theorem Hp.self {σ : Hp} {a t : Nat} {o : MO} : (σ.put a t o) a = some (t, o) := Hp.put_self ..
theorem Hp.ne {σ : Hp} {a b t : Nat} {o : MO} {r : Option (Nat × MO)} (h : b ≠ a) (e : σ b = r) : (σ.put a t o) b = r := by rw [Hp.put_ne _ _ _ h]; exact e
theorem us0 {P : List Value -> Prop} (h : P []) (us : List Value) (hl : us.length = 0) : P us := by
 rw [List.eq_nil_of_length_eq_zero hl]; exact h
theorem usS {k : Nat} {P : List Value -> Prop} (h : ∀ u (us : List Value), us.length = k -> P (u :: us)) (us : List Value) (hl : us.length = k + 1) : P us := by
 cases us with
 | nil => exact absurd hl (Nat.succ_ne_zero k).symm
 | cons u t => exact h u t (Nat.succ.inj hl)
theorem us1 {P : List Value -> Prop} (h : ∀ u, P [u]) : ∀ us : List Value, us.length = 1 -> P us := usS fun u => us0 (h u)
theorem us2 {P : List Value -> Prop} (h : ∀ u v, P [u, v]) : ∀ us : List Value, us.length = 2 -> P us := usS fun u => us1 (h u)
theorem us3 {P : List Value -> Prop} (h : ∀ u v w, P [u, v, w]) : ∀ us : List Value, us.length = 3 -> P us := usS fun u => us2 (h u)
theorem us4 {P : List Value -> Prop} (h : ∀ u v w x, P [u, v, w, x]) : ∀ us : List Value, us.length = 4 -> P us := usS fun u => us3 (h u)
theorem us5 {P : List Value -> Prop} (h : ∀ u v w x y, P [u, v, w, x, y]) : ∀ us : List Value, us.length = 5 -> P us := usS fun u => us4 (h u)
theorem FnAt.of1 {c : Cx} {a : Nat} {p1 : Str} {body : List Stmt} {scope : Scope} {oc od osl name qual params dV kV doc pm an cdv ct} (h : c.K.lookup a = some ⟨oc, od, .func (fnX name qual params body scope [] dV kV doc pm an cdv ct), osl⟩) (h2 : codeIn c.K cdv qual = true) (h3 : ∀ u1, bindArgs (fnX name qual params body scope [] dV kV doc pm an cdv ct) ⟨[u1], []⟩ = pure [(p1, u1)]) (h4 : scopeOk scope [p1] = true) : FnAt c a [p1] body scope := ⟨⟨_, _, _, _, _, _, _, _, _, _, _, _, _, h, h2, us1 h3⟩, h4⟩
theorem FnAt.of2 {c : Cx} {a : Nat} {p1 p2 : Str} {body : List Stmt} {scope : Scope} {oc od osl name qual params dV kV doc pm an cdv ct} (h : c.K.lookup a = some ⟨oc, od, .func (fnX name qual params body scope [] dV kV doc pm an cdv ct), osl⟩) (h2 : codeIn c.K cdv qual = true) (h3 : ∀ u1 u2, bindArgs (fnX name qual params body scope [] dV kV doc pm an cdv ct) ⟨[u1, u2], []⟩ = pure [(p1, u1), (p2, u2)]) (h4 : scopeOk scope [p1, p2] = true) : FnAt c a [p1, p2] body scope := ⟨⟨_, _, _, _, _, _, _, _, _, _, _, _, _, h, h2, us2 h3⟩, h4⟩
theorem FnAt.of3 {c : Cx} {a : Nat} {p1 p2 p3 : Str} {body : List Stmt} {scope : Scope} {oc od osl name qual params dV kV doc pm an cdv ct} (h : c.K.lookup a = some ⟨oc, od, .func (fnX name qual params body scope [] dV kV doc pm an cdv ct), osl⟩) (h2 : codeIn c.K cdv qual = true) (h3 : ∀ u1 u2 u3, bindArgs (fnX name qual params body scope [] dV kV doc pm an cdv ct) ⟨[u1, u2, u3], []⟩ = pure [(p1, u1), (p2, u2), (p3, u3)]) (h4 : scopeOk scope [p1, p2, p3] = true) : FnAt c a [p1, p2, p3] body scope := ⟨⟨_, _, _, _, _, _, _, _, _, _, _, _, _, h, h2, us3 h3⟩, h4⟩
theorem FnAt.of4 {c : Cx} {a : Nat} {p1 p2 p3 p4 : Str} {body : List Stmt} {scope : Scope} {oc od osl name qual params dV kV doc pm an cdv ct} (h : c.K.lookup a = some ⟨oc, od, .func (fnX name qual params body scope [] dV kV doc pm an cdv ct), osl⟩) (h2 : codeIn c.K cdv qual = true) (h3 : ∀ u1 u2 u3 u4, bindArgs (fnX name qual params body scope [] dV kV doc pm an cdv ct) ⟨[u1, u2, u3, u4], []⟩ = pure [(p1, u1), (p2, u2), (p3, u3), (p4, u4)]) (h4 : scopeOk scope [p1, p2, p3, p4] = true) : FnAt c a [p1, p2, p3, p4] body scope := ⟨⟨_, _, _, _, _, _, _, _, _, _, _, _, _, h, h2, us4 h3⟩, h4⟩
theorem FnAt.of5 {c : Cx} {a : Nat} {p1 p2 p3 p4 p5 : Str} {body : List Stmt} {scope : Scope} {oc od osl name qual params dV kV doc pm an cdv ct} (h : c.K.lookup a = some ⟨oc, od, .func (fnX name qual params body scope [] dV kV doc pm an cdv ct), osl⟩) (h2 : codeIn c.K cdv qual = true) (h3 : ∀ u1 u2 u3 u4 u5, bindArgs (fnX name qual params body scope [] dV kV doc pm an cdv ct) ⟨[u1, u2, u3, u4, u5], []⟩ = pure [(p1, u1), (p2, u2), (p3, u3), (p4, u4), (p5, u5)]) (h4 : scopeOk scope [p1, p2, p3, p4, p5] = true) : FnAt c a [p1, p2, p3, p4, p5] body scope := ⟨⟨_, _, _, _, _, _, _, _, _, _, _, _, _, h, h2, us5 h3⟩, h4⟩
end Mine
open PySem PySem.W PyProof.Rows
namespace Mine
abbrev ρ0 : Lo := fun _ => none
section
variable {c : Cx} {n : Nat} {hn : Bool} {sc : Scope} {a : Nat} {body : List Stmt} {scope : Scope} {ρ : Lo} {Q : MV -> Hp -> Prop} {X : EX} {σ : Hp} {p1 p2 p3 p4 p5 p6 p7 : Str} {a1 a2 a3 a4 a5 a6 a7 : MV}
theorem WFn.fn1 (F : FnAt c a [p1] body scope) (h : WSs c ⟨n, hn, scope⟩ body (ρ0.put p1 a1) (fun m _ σ' => Q m.val σ') noSX σ) : WFn c ⟨n + 1, hn, sc⟩ a [a1] ρ Q X σ := WFn.fn F rfl h
theorem WFn.fn2 (F : FnAt c a [p1, p2] body scope) (h : WSs c ⟨n, hn, scope⟩ body ((ρ0.put p1 a1).put p2 a2) (fun m _ σ' => Q m.val σ') noSX σ) : WFn c ⟨n + 1, hn, sc⟩ a [a1, a2] ρ Q X σ := WFn.fn F rfl h
theorem WFn.fn3 (F : FnAt c a [p1, p2, p3] body scope) (h : WSs c ⟨n, hn, scope⟩ body (((ρ0.put p1 a1).put p2 a2).put p3 a3) (fun m _ σ' => Q m.val σ') noSX σ) : WFn c ⟨n + 1, hn, sc⟩ a [a1, a2, a3] ρ Q X σ := WFn.fn F rfl h
theorem WFn.fn4 (F : FnAt c a [p1, p2, p3, p4] body scope) (h : WSs c ⟨n, hn, scope⟩ body ((((ρ0.put p1 a1).put p2 a2).put p3 a3).put p4 a4) (fun m _ σ' => Q m.val σ') noSX σ) : WFn c ⟨n + 1, hn, sc⟩ a [a1, a2, a3, a4] ρ Q X σ := WFn.fn F rfl h
theorem WFn.fn5 (F : FnAt c a [p1, p2, p3, p4, p5] body scope) (h : WSs c ⟨n, hn, scope⟩ body (((((ρ0.put p1 a1).put p2 a2).put p3 a3).put p4 a4).put p5 a5) (fun m _ σ' => Q m.val σ') noSX σ) : WFn c ⟨n + 1, hn, sc⟩ a [a1, a2, a3, a4, a5] ρ Q X σ := WFn.fn F rfl h
end
theorem lk_head {α : Type} {x : Str} {v : α} {r : List (Str × α)} : ((x, v) :: r).lookup x = some v := by simp [List.lookup_cons]
theorem lk_tail {α : Type} {x y : Str} {v : α} {r : List (Str × α)} {o : Option α} (h : (x == y) = false) (e : r.lookup x = o) : ((y, v) :: r).lookup x = o := by rw [List.lookup_cons, h]; exact e
section
variable {c : Cx} {i : Ix} {ρ : Lo} {σ : Hp} {X : EX}
theorem WSet.inst' {a t C : Nat} {name : Str} {fs fs' : List (Str × MV)} {v : MV} {Q : Unit -> Hp -> Prop} (e : σ a = some (t, .inst C fs)) (hf : c.fld C name = true) (hp : putF name v fs = fs') (hl : fs.length < 900) (h : Q () (σ.put a t (.inst C fs'))) : WSet c i (.ref a) name v ρ Q X σ := WSet.inst e hf hl (by rw [hp]; exact h)
end
section
variable {c : Cx} {n : Nat} {hn : Bool} {sc : Scope} {ρ : Lo} {σ : Hp}
theorem WE.localA {X : EX} {Q : MV -> Hp -> Prop} {x pos v} (hl : sc.names.lookup x = some .local) (hd : (x == ("__debug__" : Str)) = false) (hv : ρ x = some v) (h : Q v σ) : WE c ⟨n, hn, sc⟩ (.Name x pos) ρ Q X σ := WE.local hl hd hv h
theorem WE.cellA {X : EX} {Q : MV -> Hp -> Prop} {x pos v} (hl : sc.names.lookup x = some .cell) (hd : (x == ("__debug__" : Str)) = false) (hv : ρ x = some v) (h : Q v σ) : WE c ⟨n, hn, sc⟩ (.Name x pos) ρ Q X σ := WE.cell hl hd hv h
theorem WE.globalA {X : EX} {Q : MV -> Hp -> Prop} {x pos v} (hl : sc.names.lookup x = some .globalImplicit) (hv : c.glob x = some v) (h : Q v σ) : WE c ⟨n, hn, sc⟩ (.Name x pos) ρ Q X σ := WE.global hl hv h
theorem Wl {X : SX} {x v} {Q : Lo -> Hp -> Prop} (hl : sc.names.lookup x = some .local) (h : Q (ρ.put x v) σ) : WSt c ⟨n, hn, sc⟩ x v ρ Q X σ := WSt.local hl h
end
theorem if_tt {A B : Prop} (h : A) : if true = true then A else B := h
theorem if_ff {A B : Prop} (h : B) : if false = true then A else B := h
theorem if_nt {A B : Prop} (h : B) : if (!true) = true then A else B := h
theorem if_nf {A B : Prop} (h : A) : if (!false) = true then A else B := h
theorem Callee.con {c : Cx} {v : Value} (h : (match v with | .ref _ => false | _ => true) = true) : Callee c (.con v) := fun a e => by subst e; cases h
theorem Callee.fn {c : Cx} {a : Nat} (h : c.fns a = true) : Callee c (.ref a) := .inl h
theorem Callee.meth {c : Cx} {a C : Nat} {x : Str} (h : c.meth C x = some a) : Callee c (.ref a) := .inr (.inl (iE2 C x h))
theorem Callee.cls {c : Cx} {a b : Nat} (h : c.init a = some b) : Callee c (.ref a) := .inr (.inr ⟨b, h⟩)
section
variable {c : Cx} {i : Ix} {ρ : Lo} {σ : Hp} {X : SX} {Q : MF -> Lo -> Hp -> Prop}
end
end Mine
open PySem PySem.W PyProof.Rows
namespace Mine
theorem Hp.new {σ : Hp} {a b t : Nat} {o : MO} {p : Nat × MO} (h : σ b = Option.none) (e : σ a = some p) : (σ.put b t o) a = some p :=
 Hp.ne (fun q => by rw [q, h] at e; exact nomatch e) e
theorem Hp.tag {σ : Hp} {a b t t' : Nat} {o o' q : MO} (h : σ b = some (t, q)) (ht : t' ≠ t) (e : σ a = some (t', o')) : (σ.put b t o) a = some (t', o') :=
 Hp.ne (fun q => by rw [q, h] at e; exact ht (congrArg Prod.fst (Oi e)).symm) e
structure Oth (t : Nat) (σ σ' : Hp) : Prop where
 all : ∀ a t' o, σ a = some (t', o) -> t' ≠ t -> σ' a = some (t', o)
theorem Oth.at {t : Nat} {σ σ' : Hp} (h : Oth t σ σ') {a t' : Nat} {o : MO} (e : σ a = some (t', o)) (n : t' ≠ t) : σ' a = some (t', o) := h.all a t' o e n
theorem Oth.refl {t : Nat} {σ : Hp} : Oth t σ σ := ⟨fun _ _ _ h _ => h⟩
theorem Oth.new {t b : Nat} {o : MO} {σ σ' : Hp} (h : Oth t σ σ') (hb : σ' b = Option.none) {t' : Nat} : Oth t σ (σ'.put b t' o) := ⟨fun _ _ _ e n => Hp.new hb (h.at e n)⟩
theorem Oth.put {t b : Nat} {o q : MO} {σ σ' : Hp} (h : Oth t σ σ') (hb : σ' b = some (t, q)) : Oth t σ (σ'.put b t o) := ⟨fun _ _ _ e n => Hp.tag hb n (h.at e n)⟩
structure Kpt (t : Nat) (σ σ' : Hp) : Prop where
 all : ∀ a o, σ a = some (t, o) -> σ' a = some (t, o)
theorem Kpt.at {t : Nat} {σ σ' : Hp} (h : Kpt t σ σ') {a : Nat} {o : MO} (e : σ a = some (t, o)) : σ' a = some (t, o) := h.all a o e
theorem Kpt.new {t b : Nat} {o : MO} {σ : Hp} (hb : σ b = Option.none) {t' : Nat} : Kpt t σ (σ.put b t' o) := ⟨fun _ _ e => Hp.new hb e⟩
theorem Kpt.put {t t' b : Nat} {o q : MO} {σ : Hp} (hb : σ b = some (t', q)) (n : t ≠ t') : Kpt t σ (σ.put b t' o) := ⟨fun _ _ e => Hp.tag hb n e⟩
theorem Oth.kpt {t t' : Nat} {σ σ' : Hp} (h : Oth t σ σ') (n : t' ≠ t) : Kpt t' σ σ' := ⟨fun _ _ e => h.at e n⟩
theorem Hp.put_put {σ : Hp} {a t t' : Nat} {o o' : MO} : (σ.put a t o).put a t' o' = σ.put a t' o' := by
 funext b
 unfold Hp.put
 split <;> rfl
theorem ListAt.k {σ : Hp} {a t : Nat} {xs : List MV} {o : Obj} (h : σ a = some (t, .klist xs o)) : ListAt σ a xs := ⟨t, .inr ⟨o, h⟩⟩
section
variable {c : Cx} {i : Ix}
theorem WFor.byIdx' {x : Str} {body : List Stmt} {still : Hp -> Prop} {Q : MF -> Lo -> Hp -> Prop} {items : List MV} (Inv : Nat -> Lo -> Hp -> Prop)
 (hs : ∀ k v ρ σ, items[k]? = some v -> Inv k ρ σ -> still σ /\ WSt c i x v ρ (fun ρ₁ σ₁ => WSs c i body ρ₁ (fun m ρ₂ σ₂ => match m with
  | .next | .cont => Inv (k + 1) ρ₂ σ₂
  | .brk => Q .next ρ₂ σ₂
  | .ret u => Q (.ret u) ρ₂ σ₂) noSX σ₁) noSX σ)
 (he : ∀ ρ σ, Inv items.length ρ σ -> still σ /\ Q .next ρ σ) : ∀ (n k : Nat) (ρ : Lo) (σ : Hp), n + k = items.length -> Inv k ρ σ -> WFor c i x body still Q (items.drop k) ρ σ
 | 0, k, ρ, σ, hk, h => by
  rw [List.drop_eq_nil_of_le (by omega)]
  exact he ρ σ (by rw [<- hk, Nat.zero_add]; exact h)
 | n + 1, k, ρ, σ, hk, h => by
  have hlt : k < items.length := by omega
  rw [List.drop_eq_getElem_cons hlt]
  obtain ⟨h1, h2⟩ := hs k _ ρ σ (List.getElem?_eq_getElem hlt) h
  refine ⟨h1, ?_⟩
  intro u hu f fr z s a b g R
  refine wpAny_mono (h2 u hu f fr z s a b g R) (fun _ s' hq => ?_) (fun _ _ hx => hx)
  refine eEEA hq fun ρ' σ' R' hw => ?_; clear hq
  refine (iEEA ρ' σ' R' ?_)
  refine S.mono hw fun m ρ₂ σ₂ hm => ?_
  cases m with
  | next => exact WFor.byIdx' Inv hs he n (k + 1) ρ₂ σ₂ (by omega) hm
  | cont => exact WFor.byIdx' Inv hs he n (k + 1) ρ₂ σ₂ (by omega) hm
  | brk => exact hm
  | ret u => exact hm
theorem WFor.byIdx {x : Str} {body : List Stmt} {still : Hp -> Prop} {Q : MF -> Lo -> Hp -> Prop} {items : List MV} {ρ : Lo} {σ : Hp} (Inv : Nat -> Lo -> Hp -> Prop) (h0 : Inv 0 ρ σ)
 (hs : ∀ k v ρ σ, items[k]? = some v -> Inv k ρ σ -> still σ /\ WSt c i x v ρ (fun ρ₁ σ₁ => WSs c i body ρ₁ (fun m ρ₂ σ₂ => match m with
  | .next | .cont => Inv (k + 1) ρ₂ σ₂
  | .brk => Q .next ρ₂ σ₂
  | .ret u => Q (.ret u) ρ₂ σ₂) noSX σ₁) noSX σ)
 (he : ∀ ρ σ, Inv items.length ρ σ -> still σ /\ Q .next ρ σ) : WFor c i x body still Q items ρ σ := by
 have := WFor.byIdx' Inv hs he items.length 0 ρ σ (by omega) h0
 simpa using this
theorem upTo_length {lo hi : Int} : (upTo lo hi).length = (hi - lo).toNat := by simp [upTo]
theorem upTo_at {lo hi : Int} {k : Nat} {v : MV} (h : (upTo lo hi)[k]? = some v) : v = .int (lo + (k : Int)) /\ lo + (k : Int) < hi := by
 unfold upTo at h
 rw [List.getElem?_map] at h
 cases q : (List.range (hi - lo).toNat)[k]? with
 | none => rw [q] at h; simp at h
 | some j =>
  rw [q] at h
  have hlt : k < (List.range (hi - lo).toNat).length := (Gs q).1
  rw [List.length_range] at hlt
  rw [List.getElem?_range hlt] at q
  cases q
  cases h
  exact ⟨rfl, by omega⟩
theorem le0 {m : Int} (h : 1 <= m) : 0 <= m := Int.le_trans (by decide) h
theorem lt0 {m : Int} (h : 1 <= m) : 0 < m := Int.lt_of_lt_of_le (by decide) h
theorem mapLe {α : Type} {l : List α} {f : α -> MV} {b : Nat} (h : l.length <= b) : (l.map f).length <= b := by rw [List.length_map]; exact h
theorem fmod_ge (a : Int) {m : Int} (h : 1 <= m) : 0 <= a.fmod m := Int.fmod_nonneg_of_pos _ (lt0 h)
theorem fmod_lt (a : Int) {m : Int} (h : 1 <= m) : a.fmod m < m := Int.fmod_lt_of_pos _ (lt0 h)
theorem itR {σ : Hp} {a t : Nat} {n : Int} (e : σ a = some (t, .range 0 n)) (h0 : 0 <= n) (h1 : n <= 1000000) : Iterable σ (.ref a) (upTo 0 n) (fun _ => True) := .range e (by decide) (by decide) (by omega) (by omega)
theorem WFor.upTo {x : Str} {body : List Stmt} {Q : MF -> Lo -> Hp -> Prop} {n : Int} {ρ : Lo} {σ : Hp} (Inv : Nat -> Lo -> Hp -> Prop) (h0 : Inv 0 ρ σ)
 (hs : ∀ (k : Nat) ρ σ, (k : Int) < n -> Inv k ρ σ -> WSt c i x (.int (k : Int)) ρ (fun ρ₁ σ₁ => WSs c i body ρ₁ (fun m ρ₂ σ₂ => match m with
  | .next | .cont => Inv (k + 1) ρ₂ σ₂
  | .brk => Q .next ρ₂ σ₂
  | .ret u => Q (.ret u) ρ₂ σ₂) noSX σ₁) noSX σ)
 (he : ∀ ρ σ, Inv n.toNat ρ σ -> Q .next ρ σ) : WFor c i x body (fun _ => True) Q (upTo 0 n) ρ σ := by
 refine WFor.byIdx Inv h0 (fun k v ρ σ hv hI => ⟨trivial, ?_⟩) fun ρ σ h => ⟨trivial, he ρ σ ?_⟩
 · obtain ⟨rfl, hlt⟩ := upTo_at hv
   rw [Int.zero_add] at hlt ⊢
   exact hs k ρ σ hlt hI
 · rw [upTo_length, Int.sub_zero] at h; exact h
end
section
variable {c : Cx} {i : Ix} {ρ : Lo} {σ : Hp} {X : EX} {Q : MV -> Hp -> Prop}
theorem WC.isNN  (h : Q (.bool true) σ) : WC c i .Is .none .none ρ Q X σ := WC.isNone rfl h
theorem WC.isNotNN  (h : Q (.bool false) σ) : WC c i .IsNot .none .none ρ Q X σ := WC.isNotNone rfl h
theorem WC.isNS {x} (h : Q (.bool false) σ) : WC c i .Is (.str x) .none ρ Q X σ := WC.isNone rfl h
theorem WC.isNotNS {x} (h : Q (.bool true) σ) : WC c i .IsNot (.str x) .none ρ Q X σ := WC.isNotNone rfl h
theorem WC.inS_t {a t es k v} (hd : σ a = some (t, .sdict es)) (hg : getK es k = some v) (h : Q (.bool true) σ) : WC c i .In (.str k) (.ref a) ρ Q X σ := WC.inS hd (by rw [hg]; exact h)
theorem WC.inS_f {a t es k} (hd : σ a = some (t, .sdict es)) (hg : getK es k = Option.none) (h : Q (.bool false) σ) : WC c i .In (.str k) (.ref a) ρ Q X σ := WC.inS hd (by rw [hg]; exact h)
theorem WC.notInS_t {a t es k v} (hd : σ a = some (t, .sdict es)) (hg : getK es k = some v) (h : Q (.bool false) σ) : WC c i .NotIn (.str k) (.ref a) ρ Q X σ := WC.notInS hd (by rw [hg]; exact h)
theorem WC.notInS_f {a t es k} (hd : σ a = some (t, .sdict es)) (hg : getK es k = Option.none) (h : Q (.bool true) σ) : WC c i .NotIn (.str k) (.ref a) ρ Q X σ := WC.notInS hd (by rw [hg]; exact h)
end
section
variable {c : Cx} {i : Ix} {ρ : Lo} {σ : Hp}
theorem if_pt {b : Bool} {A B : Prop} (hb : b = true) (h : A) : if b = true then A else B := by rw [if_pos hb]; exact h
theorem if_pf {b : Bool} {A B : Prop} (hb : b = false) (h : B) : if b = true then A else B := by rw [hb]; exact h
theorem if_dt {p : Prop} [Decidable p] {A B : Prop} (hp : p) (h : A) : if decide p = true then A else B := by rw [if_pos (decide_eq_true hp)]; exact h
theorem if_df {p : Prop} [Decidable p] {A B : Prop} (hp : ¬ p) (h : B) : if decide p = true then A else B := by rw [decide_eq_false hp]; exact h
theorem if_et {m n : Int} {A B : Prop} (hp : m = n) (h : A) : if (m == n) = true then A else B := by rw [if_pos (by simpa using hp)]; exact h
end
end Mine
open PySem PySem.W PyProof.Rows
namespace Mine
section
variable {c : Cx} {i : Ix} {ρ : Lo} {σ : Hp} {X : EX} {Q : MV -> Hp -> Prop}
theorem WM.dictPop {a t es} {Q : MV × List MV -> Hp -> Prop} (hl : σ a = some (t, .sdict es)) (h : Q (.con (.builtin "dict.pop"), [.ref a]) σ) : WM c i (.ref a) "pop" ρ Q X σ := fun v pl iv f fr z s _ _ g R => by
 cases iv
 refine eAEA (Rel.sdict R hl) fun l kvs hk r => ?_
 exact getMethod_builtin (T := "dict") hk.typeIs PySem.F.plainAttrs_dict PySem.F.slot_dict_pop PySem.F.type_dict_pop (fun b e => by cases e; refine eEEEAA hk fun o es' ep ho hx _ => ?_; clear hk; exact (iEA o ho hx.2.1)) (iEEAA (.con (.builtin "dict.pop"), [.ref a]) σ ⟨rfl, .cons rfl .nil⟩ R h)
theorem WCall.dictPop {a t : Nat} {es : List (Str × MV)} {k : Str} {v : MV} (hd : σ a = some (t, .sdict es)) (hz : es.length <= 1000000) (hv : getK es k = some v) (h : Q v (σ.put a t (.sdict (delK es k)))) : WCall c i (.con (.builtin "dict.pop")) [.ref a, .str k] ρ Q X σ := fun v' us iv iu f fr z s _ _ g R => by
 cases iv
 refine eEEAA iu.two fun u1 u2 z1' i1 i2 => ?_; subst z1'
 cases i1
 obtain ⟨tk, rfl⟩ := i2
 refine eAEA (Rel.sdict R hd) fun l kvs hk r => ?_
 refine eEA (getK_some r hv) fun u hu is => ?_
 refine call_meetsIn PySem.F.slot_dict_pop hk.typeIs PySem.F.entry_dict_pop (PySem.F.args_dict_pop_2 _ _) (meets_dict_pop_there (PySem.strKind c.prog c.w) a (PySem.strKind_is _ _ k tk) [] (.inl rfl) rfl)
  (iEEAAA kvs u hk (size_ok (by rw [<- r.length]; exact hz)) hu (fun h' hk' hs => (iEEAA v _ is (R.upd (t' := t) (mo' := .sdict (delK es k)) hd rfl rfl (.of_same hs (R.neL hd)) ⟨l, ?_⟩) h)))
 refine eEA (Heap.dictOf_iff.mp hk') fun o ho hd' => ?_
 exact ⟨o, ho, _, hd', delK_all r k⟩
theorem all2_drop {α β : Type} {Rl : α -> β -> Prop} : ∀ (k : Nat) {l : List α} {m : List β}, All2 Rl l m -> All2 Rl (l.drop k) (m.drop k)
 | 0, _, _, h => h
 | k + 1, _, _, .nil => .nil
 | k + 1, _, _, .cons _ h => all2_drop k h
theorem all2_take {α β : Type} {Rl : α -> β -> Prop} : ∀ (k : Nat) {l : List α} {m : List β}, All2 Rl l m -> All2 Rl (l.take k) (m.take k)
 | 0, _, _, _ => .nil
 | k + 1, _, _, .nil => .nil
 | k + 1, _, _, .cons r h => .cons r (all2_take k h)
theorem pick_both (items : Array Value) (a b : Nat) (h : a <= b) : slicePick items (some (a : Int)) (some (b : Int)) Option.none = ((items.toList.take b).drop a).toArray := by
 rw [slicePick_plain]
 simp only [Option.elim, clipAt_nat]
 congr 1
 rw [List.drop_take]
 rcases Nat.le_total b items.size with hb | hb
 · rw [Nat.min_eq_left hb, Nat.min_eq_left (Nat.le_trans h hb)]
 · rw [Nat.min_eq_right hb]
   rcases Nat.le_total a items.size with ha | ha
   · rw [Nat.min_eq_left ha, List.take_of_length_le (by simp), List.take_of_length_le (by simp; omega)]
   · rw [Nat.min_eq_right ha, List.drop_of_length_le (by simp), List.drop_of_length_le (by simpa using ha)]; simp
theorem WE.sliceBoth {nm np lo hi p pos} (t : Nat) (h : WE c i (.Name nm np) ρ (fun a σ₁ => WE c i lo ρ (fun b σ₂ => WE c i hi ρ (fun d σ₃ => ∃ l xs, ∃ j k : Nat, a = .ref l /\ b = .int j /\ d = .int k /\ j <= k /\ ListAt σ₃ l xs /\ xs.length <= 1000000 /\
 ∀ B, Fresh σ₃ B -> Q (.ref B) (σ₃.put B t (.list ((xs.take k).drop j)))) X σ₂) X σ₁) X σ) : WE c i (.Subscript (.Name nm np) (.Slice (some lo) (some hi) Option.none p) pos) ρ Q X σ := fun f fr z s a b g R => by
 refine wpAny_Subscript_list_slice (wuse (h f fr z s a b g R) (fun v s₁ _ σ₁ i1 R₁ h₁ => wpAny_evalPart_some (wuse (h₁ f fr z s₁ a b g R₁) (fun u s₂ _ σ₂ i2 R₂ h₂ => wpAny_evalPart_some (wuse (h₂ f fr z s₂ a b g R₂) (fun u' s₃ _ σ₃ i3 R₃ q9 => ?_) fun _ _ x => x)) fun _ _ x => x)) fun _ _ x => x); obtain ⟨l, xs, j, k, e1, e2, e3, hjk, hl, hz, h₃⟩ := q9
 subst e1; subst e2; subst e3
 cases i1; obtain ⟨tk, rfl⟩ := i2; obtain ⟨tk', rfl⟩ := i3
 refine eEA (R₃.isList hl) fun its hi' r => ?_
 have e : its.size = xs.length := by rw [r.length]; simp
 refine (iE4 l its (some j) (some k) (iA5 rfl hi' (size_ok (by rw [e]; exact hz)) (.int _ _) (.int _ _) ?_))
 rw [pick_both its j k hjk]
 have kp : ∀ b o, s₃.heap.get? b = some o -> ((s₃.heap.push { cls := .type "slice", data := .fields #[.int (j : Int) tk, .int (k : Int) tk', .none] }).push { cls := .type "list", data := .seq ((its.toList.take k).drop j).toArray }).get? b = some o :=
  fun b o e => Heap.get?_push_of_some _ (Heap.get?_push_of_some _ e)
 have hD : ((s₃.heap.push { cls := .type "slice", data := .fields #[.int (j : Int) tk, .int (k : Int) tk', .none] }).push { cls := .type "list", data := .seq ((its.toList.take k).drop j).toArray }).get? (s₃.heap.objs.size + 1) = some (listOf ((its.toList.take k).drop j).toArray 0) := by
  have e1 := Heap.get?_push_size (s₃.heap.push { cls := .type "slice", data := .fields #[.int (j : Int) tk, .int (k : Int) tk', .none] }) (o := { cls := .type "list", data := .seq ((its.toList.take k).drop j).toArray }) rfl
  rw [Heap.size_push] at e1
  exact e1
 refine (iEEAA (.ref (s₃.heap.objs.size + 1)) _ rfl (R₃.alloc (mo := .list ((xs.take k).drop j)) (tk := s₃.toks) t (.of_grown kp) (Nat.le_succ _) (fun q => by cases q) (iEEA _ _ hD ?_)) (h₃ _ fun a p e => Nat.lt_succ_of_lt (R₃.some_lt e)))
 simpa using all2_drop j (all2_take k r)
end
end Mine
open PySem PySem.W PyProof.Rows
namespace Mine
section
variable {M : Model} {A : Around} {E : Value -> Shared -> Prop} {s : Shared}
theorem entryB {base : Heap} {env : Env} {outer : List Env} {L e : Nat} {oe : Obj} {vs : Array Value} {head a0 : Value} {hadNext : Bool} {Q : Unit -> Shared -> Prop}
 (hfr : A.frames = some (env :: outer)) (hl : s.heap.FunFrames base (env :: outer)) (hf : env.frame = some L) (he : s.heap.get? e = some oe) (hkb : base.StaysIn s.heap) (hen : base.get? e = none) (hd : oe.data = .fields vs)
 (h0 : vs[0]? = some a0) (h2 : vs[2]? = some .none) (hQ : ∀ h', Heap.HeldW base (env :: outer) e oe.cls a0 L h' -> Bare h' e -> s.heap.UpToSlots h' -> Q () { s with heap := h' }) :
 wpAny M A (do let a <- PySem.frameOf env; let pl <- entryPlaceOf L hadNext; let b <- EntryCells.newEntry head a .none (rawInt L) .none pl; setField (.ref e) 1 b) Q E s := by
 have hsz : 2 < vs.size := (Array.getElem?_eq_some_iff.mp h2).1
 have nfe : ∀ {h : Heap}, h.get? e = some oe -> ∀ b o, h.get? b = some o -> (∀ ws, o.data ≠ .fields ws) -> b ≠ e := fun ho b o hb hn q => by
  subst q; rw [ho] at hb; cases hb; exact hn _ hd
 refine wpAny_bind (wpAny_frameOf_fun hfr hl hf fun h₁ hs₁ => ?_)
 refine wpAny_bind (wpAny_entryPlaceOf fun pl hpl => ?_)
 have he₁ : h₁.get? e = some oe := (hs₁.2.1 e fun hm => by
  refine eAEA (hl.mem hm) fun _ o ho hn => ?_
  rw [he] at ho; cases ho; exact hn _ hd).trans he
 have hb₁ : base.StaysIn h₁ := fun b o hb => (hs₁.2.1 b fun hm => by rw [(hl.mem hm).1] at hb; cases hb).trans (hkb b o hb)
 unfold EntryCells.newEntry newFields
 refine wpAny_bind (wpAny_newObj_type ?_ (hpl.sizeOk5 _ _ _ _ _))
 dsimp only
 generalize hob : ({ cls := .type "traceback", dict := none, data := .fields ([head, .ref L, .none, rawInt L, .none] ++ (if pl.isEmpty then List.replicate 6 Value.none else pl)).toArray } : Obj) = ob
 have hobd : ob.data = .fields ([head, .ref L, .none, rawInt L, .none] ++ (if pl.isEmpty then List.replicate 6 Value.none else pl)).toArray := by rw [<- hob]
 have hobf : ob.isFreed = false := Obj.isFreed_of_fields hobd
 have he₂ := Heap.get?_push_of_some ob he₁
 refine wpAny_setField he₂ hd (Nat.lt_trans (by decide) hsz) ?_
 have ne : h₁.objs.size ≠ e := Nat.ne_of_gt (Heap.lt_size he₁)
 have hd₃ := Obj.data_mapFields hd (·.setIfInBounds 1 (Value.ref h₁.objs.size))
 have he₃ := Heap.get?_update_self (Obj.mapFields (·.setIfInBounds 1 (Value.ref h₁.objs.size))) he₂ (Obj.isFreed_of_fields hd₃)
 have old : ∀ b o, b ≠ e -> h₁.get? b = some o -> ((h₁.push ob).update e (Obj.mapFields (·.setIfInBounds 1 (Value.ref h₁.objs.size)))).get? b = some o := fun b o q hb =>
  (Heap.get?_update_other _ _ (Ne.symm q)).trans (Heap.get?_push_of_some _ hb)
 have upt : s.heap.UpToSlots ((h₁.push ob).update e (Obj.mapFields (·.setIfInBounds 1 (Value.ref h₁.objs.size)))) := fun b o hb hn => by
  obtain ⟨sl, q⟩ := hs₁.2.2 b o hb
  exact ⟨sl, old b _ (nfe he b o hb hn) q⟩
 refine hQ _ (iA3 (fun b o hb => old b o (fun q => by rw [q, hen] at hb; cases hb) (hb₁ b o hb)) hen (hl.of_keeps fun b o hb hn => ?_) ?_) ?_ upt
 · obtain ⟨sl, q⟩ := upt b o hb hn
   exact (iEA _ q rfl)
 · refine (iE5 _ _ h₁.objs.size _ _ (iA8 he₃ ⟨Obj.cls_mapFields _ _, ?_⟩ hd₃ ?_ hb₁.fresh ne ((Heap.get?_update_other _ _ (Ne.symm ne)).trans (Heap.get?_push_size h₁ hobf)) hobd ?_))
   · rw [Array.getElem?_setIfInBounds_ne (by decide)]; exact h0
   · rw [Array.getElem?_setIfInBounds_self]; rw [if_pos (Nat.lt_trans (by decide) hsz)]
   · rfl
 · refine (iEEAA _ _ he₃ hd₃ ?_)
   rw [Array.getElem?_setIfInBounds_ne (by decide)]; exact h2
theorem noteB_new {base h : Heap} {env : Env} {outer : List Env} {L e : Nat} {cls : Value} {args : List Value} {Q : Unit -> Shared -> Prop} (hfr : A.frames = some (env :: outer)) (hf : env.frame = some L) (hkb : base.StaysIn h) (hl : h.FunFrames base (env :: outer)) (hx : Heap.MadeExcOf h s.heap e cls args)
 (hQ : ∀ h' t, Heap.HeldW base (env :: outer) e cls (.ref t) L h' -> Bare h' e -> h'.TupAt t args -> base.get? t = none -> s.heap.UpToSlots h' -> Q () { s with heap := h' }) : wpAny M A (noteFrame (.ref e) env) Q E s := by
 refine eEAA hx.there fun t he htn ht => ?_
 have fresh : ∀ b, h.get? b = none -> base.get? b = none := fun b hb => by
  cases hq : base.get? b with
  | none => rfl
  | some o => have := hkb b o hq; rw [hb] at this; cases this
 unfold noteFrame
 rw [hf]
 dsimp only
 refine wpAny_bind (wpAny_field he rfl (x := .none) rfl ?_)
 rw [if_neg (by decide)]
 exact entryB hfr (hl.of_keeps fun b o hb _ => (iEA o (hx.keeps b o hb) rfl)) hf he (fun b o hb => hx.keeps b o (hkb b o hb)) (fresh e hx.new) rfl rfl rfl fun h' H B U => hQ h' t H B (Heap.TupAt.of_slots (iEEAA _ _ ht rfl rfl) U) (fresh t htn) U
theorem noteB_on {base : Heap} {env : Env} {outer : List Env} {L e : Nat} {cls a0 : Value} {Q : Unit -> Shared -> Prop} (hfr : A.frames = some (env :: outer)) (hf : env.frame = some L) (hfl : Heap.FlyingW base (env :: outer) e cls a0 s.heap) (hB : Bare s.heap e)
 (hQ : ∀ h', Heap.HeldW base (env :: outer) e cls a0 L h' -> Bare h' e -> s.heap.UpToSlots h' -> Q () { s with heap := h' }) : wpAny M A (noteFrame (.ref e) env) Q E s := by
 refine eA3 hfl fun f1 f2 f3 y0' => eE5 y0' fun oe vs T oT ts y1' => eA8 y1' fun he z1' hd h1 hTn hTe hT hdT h3 => ?_; clear hfl; obtain ⟨hc, h0⟩ := z1'
 refine eEEAA hB fun oe' vs' he' hd' h2 => ?_; clear hB
 rw [he] at he'; cases he'
 rw [hd] at hd'; cases hd'
 subst hc
 unfold noteFrame
 rw [hf]
 dsimp only
 refine wpAny_bind (wpAny_field he hd h1 ?_)
 rw [if_pos (show (Value.ref T != Value.none) = true from by simp)]
 refine wpAny_bind (wpAny_field hT hdT h3 ?_)
 rw [if_neg (show ¬ ((Value.none == rawInt L) = true) from by simp [rawInt])]
 refine wpAny_bind (wpAny_setField hT hdT (Array.getElem?_eq_some_iff.mp h3).1 ?_)
 have oth : ∀ b, b ≠ T -> (s.heap.update T (Obj.mapFields (·.setIfInBounds 3 Value.none))).get? b = s.heap.get? b := fun b q => Heap.get?_update_other _ _ (Ne.symm q)
 have nT : ∀ b o, s.heap.get? b = some o -> (∀ ws, o.data ≠ .fields ws) -> b ≠ T := fun b o hb hn q => by
  subst q; rw [hT] at hb; cases hb; exact hn _ hdT
 refine entryB hfr (f3.of_keeps fun b o hb hn => (iEA o ((oth b (nT b o hb hn)).trans hb) rfl)) hf ((oth e (Ne.symm hTe)).trans he) (fun b o hb => (oth b fun q => by rw [q, hTn] at hb; cases hb).trans (f1 b o hb)) f2 hd h0 h2 fun h' H B U => hQ h' H B fun b o hb hn => U b o ((oth b (nT b o hb hn)).trans hb) hn
theorem flightB {base : Heap} {l : List Env} {e : Nat} {cls a0 fl : Value} {Q : Unit -> Shared -> Prop} (f1 : base.StaysIn s.heap) (f2 : base.get? e = none) (f3 : s.heap.FunFrames base l) (f4 : s.heap.TracedAtW base e cls a0 fl) (hB : Bare s.heap e)
 (hQ : ∀ h', Heap.FlyingW base l e cls a0 h' -> Bare h' e -> s.heap.UpToSlots h' -> Q () { s with heap := h' }) : wpAny M A (setFlight (.ref e) none) Q E s := by
 refine eE5 f4 fun oe vs T oT ts y0' => eA8 y0' fun he hc hd h1 hTn hTe hT hdT h3 => ?_; clear f4
 refine eEEAA hB fun oe' vs' he' hd' h2 => ?_; clear hB
 rw [he] at he'; cases he'
 rw [hd] at hd'; cases hd'
 have h3s : 3 < ts.size := (Array.getElem?_eq_some_iff.mp h3).1
 unfold setFlight
 refine wpAny_bind (wpAny_field he hd h1 ?_)
 rw [if_pos (show (Value.ref T != Value.none) = true from by simp)]
 have oth : ∀ b, b ≠ T -> (s.heap.update T (Obj.mapFields (·.setIfInBounds 3 ((none : Option Addr).elim Value.none fun f => rawInt f)))).get? b = s.heap.get? b := fun b q => Heap.get?_update_other _ _ (Ne.symm q)
 have nT : ∀ b o, s.heap.get? b = some o -> (∀ ws, o.data ≠ .fields ws) -> b ≠ T := fun b o hb hn q => by
  subst q; rw [hT] at hb; cases hb; exact hn _ hdT
 have heT := (oth e (Ne.symm hTe)).trans he
 refine wpAny_setField hT hdT h3s (hQ _ (iA3 (fun b o hb => (oth b fun q => by rw [q, hTn] at hb; cases hb).trans (f1 b o hb)) f2 (f3.of_keeps fun b o hb hn => (iEA o ((oth b (nT b o hb hn)).trans hb) rfl)) ?_) (iEEAA oe vs heT hd h2) fun b o hb hn => ⟨o.slots, (oth b (nT b o hb hn)).trans hb⟩)
 exact (iE5 oe vs T _ _ (iA8 heT hc hd h1 hTn hTe (Heap.get?_update_self _ hT (Obj.isFreed_of_fields (Obj.data_mapFields hdT _))) (Obj.data_mapFields hdT _) (by simp [h3s])))
theorem leaveB_new {base h : Heap} {env : Env} {outer : List Env} {L e : Nat} {cls : Value} {args : List Value} {Q : Unit -> Shared -> Prop} (hfr : A.frames = some (env :: outer)) (hf : env.frame = some L) (hkb : base.StaysIn h) (hl : h.FunFrames base (env :: outer)) (hx : Heap.MadeExcOf h s.heap e cls args)
 (hQ : ∀ h' t, Heap.FlyingW base outer e cls (.ref t) h' -> Bare h' e -> h'.TupAt t args -> base.get? t = none -> s.heap.UpToSlots h' -> Q () { s with heap := h' }) : wpAny M A (leaving env (.ref e)) Q E s := by
 unfold leaving
 refine wpAny_bind (noteB_new hfr hf hkb hl hx fun h₁ t H B T tn U => ?_)
 refine flightB H.1 H.2.1 H.2.2.1 H.2.2.2 B fun h₂ F B₂ U₂ => hQ h₂ t (iA3 F.1 F.2.1 F.2.2.1.2.2 F.2.2.2) B₂ (T.of_slots U₂) tn (U.trans U₂)
theorem leaveB_on {base : Heap} {env : Env} {outer : List Env} {L e : Nat} {cls a0 : Value} {Q : Unit -> Shared -> Prop} (hfr : A.frames = some (env :: outer)) (hf : env.frame = some L) (hfl : Heap.FlyingW base (env :: outer) e cls a0 s.heap) (hB : Bare s.heap e)
 (hQ : ∀ h', Heap.FlyingW base outer e cls a0 h' -> Bare h' e -> s.heap.UpToSlots h' -> Q () { s with heap := h' }) : wpAny M A (leaving env (.ref e)) Q E s := by
 unfold leaving
 refine wpAny_bind (noteB_on hfr hf hfl hB fun h₁ H B U => ?_)
 refine flightB H.1 H.2.1 H.2.2.1 H.2.2.2 B fun h₂ F B₂ U₂ => hQ h₂ (iA3 F.1 F.2.1 F.2.2.1.2.2 F.2.2.2) B₂ (U.trans U₂)
theorem landB {base : Heap} {l : List Env} {e L : Nat} {cls a0 : Value} {Q : Unit -> Shared -> Prop} (H : Heap.HeldW base l e cls a0 L s.heap) (hB : Bare s.heap e)
 (hQ : ∀ h', Heap.FlyingW base l e cls a0 h' -> Bare h' e -> s.heap.UpToSlots h' -> Q () { s with heap := h' }) : wpAny M A (setFlight (.ref e) none) Q E s := flightB H.1 H.2.1 H.2.2.1 H.2.2.2 hB hQ
theorem landB_again {base : Heap} {l : List Env} {e : Nat} {cls a0 : Value} {Q : Unit -> Shared -> Prop} (H : Heap.FlyingW base l e cls a0 s.heap) (hB : Bare s.heap e)
 (hQ : ∀ h', Heap.FlyingW base l e cls a0 h' -> Bare h' e -> s.heap.UpToSlots h' -> Q () { s with heap := h' }) : wpAny M A (setFlight (.ref e) none) Q E s := flightB H.1 H.2.1 H.2.2.1 H.2.2.2.at hB hQ
end
section
variable {c : Cx} {i : Ix} {ρ : Lo} {σ : Hp} {X : SX} {Q : MF -> Lo -> Hp -> Prop}
theorem WS.raise {x : Str} {np cpos pos : Pos} {arg : Expr} {C : Nat} {newId Bn inN B nid initId : String} {bm bmN : List Value} (hn : i.hn = true) (hl : i.sc.names.lookup x = some .globalImplicit) (hg : c.glob x = some (.ref C))
 (hs : specOf c.p x = some (newId, bm)) (Fn : ExcBaseFacts Bn newId inN bmN) (FB : ExcBaseFacts B nid initId bm) (hBn : bm.contains (.type Bn) = true) (hst : noStar arg = true)
 (h : WE c i arg ρ (fun v σ₁ => ∀ e, X true C e ρ σ₁) (X.ex ρ) σ) : WS c i (.Raise (some (.Call (.Name x np) [arg] [] cpos)) none pos) ρ Q X σ := fun f fr z s a b g R => by
 refine eEA (g.top.ownAt hs) fun C' O hm => ?_
 obtain ⟨hd, ⟨u, hu, is⟩ | ⟨hno, _, u, hu, is⟩⟩ := g.ok.glob x _ hg
 · cases is
   have hmg := mg_of g.K g.top.g hu
   have hCC : C' = C := by have := O.bound; rw [hmg] at this; cases this; rfl
   subst hCC
   refine eE17 O.own.obj fun tl N nm q bs hdct sn sub ab col dd k0 k1 k2 k3 k5 mN y0' => eA3 y0' fun hC hN hni T => ?_
   have hp : (backTo cpos (starEach [arg] f.env)).any (·.1) = false := back_any (by simp [hst])
   refine wpAny_Raise_call_subU (C := C') (nm := nm) (q := q) (N := N) (bs := bs) (bm := tl) (hdct := hdct) (sn := sn) (sub := sub) (ab := ab) (col := col) (dd := dd) (k0 := k0) (k1 := k1) (k2 := k2) (k3 := k3) (k5 := k5)
    Fn hBn FB (mN := mN) (T.hasType FB.hasBase) (b hn) hp hni ?_
   refine Calls.Name_function_global g.kind (kindAt a hl) (Calls.loadGlobal_global (mg := c.mg) (v := .ref C') (by rw [g.globals]; exact (g.at R).g) hmg ⟨rfl, ?_⟩) hd
   have hW : WEs c i cpos [arg] ρ (fun vs σ₁ => vs.length <= 1 /\ ∀ e, X true C' e ρ σ₁) (X.ex ρ) σ := WEs.cons hst (W.mono h fun v σ₁ hx => WEs.nil ⟨Nat.le_refl 1, hx⟩)
   have hw := hW f fr z s a b g R
   dsimp only at hw
   rw [starEach_cons hst] at hw ⊢
   refine Calls.evalArgs_plain (wpAny_mono hw (fun vs s₂ x => ?_) fun _ _ x => Ex.at x)
   refine eEEAAA x fun ms σ₁ iv R₁ hlen hX => ?_; clear x
   have kp : ∀ b o, f.base.get? b = some o -> s₂.heap.get? b = some o := g.keep R₁
   have hvl : vs.length <= 1 := by rw [<- iv.length]; exact hlen
   exact (iA5 rfl (size_ok (Nat.le_trans hvl (by decide))) (kp _ _ hC) (hN.keeps kp) (T.keeps kp) (fun h' e mk => (iE5 true C' e ρ σ₁ (iA2 rfl (iEEA s₂.heap vs R₁ mk) (hX e)))))
 · cases is
   have hm2 := mg_none_of g.K g.top.g hno
   have := O.bound
   rw [hm2] at this
   cases this
end
theorem funFrames_of {h base : Heap} : ∀ {l : List Env}, (∀ env ∈ l, env.scope.kind ≠ .module /\ ∃ L o, env.frame = some L /\ h.get? L = some o /\ (∀ vs, o.data ≠ .fields vs) /\ base.get? L = none) -> h.FunFrames base l
 | [], _ => trivial
 | env :: l, k => by
  refine eAEEAAA (k env (.head _)) fun k1 L o k2 k3 k4 k5 => ?_
  exact (iA2 k1 (iEEAAA L o k2 k5 k3 k4) (funFrames_of fun e he => k e (.tail _ he)))
theorem leave_call {c : Cx} {n : Nat} {f : Fm} {fr : Nat -> Option Obj} {ρ ρ' : Lo} {σ σ' : Hp} {z s s'' : Shared} {qual : Str} {scope : Scope} {fa : Nat} {cd : Value} {ps : List Str} (g : Good c (n + 1) f fr) (R : c.Rel f ρ σ fr z s) (hs : scopeOk scope ps = true) {b : Bool} {C e : Nat}
 (x : XRel c b (newFm f qual scope s.heap.objs.size fa cd) ρ' σ' (restOf σ s) z s'' C e) {P : Unit -> Shared -> Prop} {E : Value -> Shared -> Prop} (hP : ∀ s3, XRel c false f ρ σ' fr z s3 C e -> P () s3) :
 wpAny c.M (f.A.deeper (envOfC qual scope s.heap.objs.size fa cd)) (leaving (envOfC qual scope s.heap.objs.size fa cd) (.ref e)) P E s'' := by
 have G' := newFm_good g R (qual := qual) (fa := fa) (cd := cd) hs
 have key : ∀ {h : Heap}, c.Rel (newFm f qual scope s.heap.objs.size fa cd) ρ' σ' (restOf σ s) z { s'' with heap := h } -> ∀ s3 : Shared, s3.gens = s''.gens -> s3.drawn = s''.drawn -> s3.os = s''.os -> c.Rel f ρ σ' fr z { s3 with heap := h.hide s.heap.objs.size } := fun {h} R'' s3 e1 e2 e3 => by
  have R2 : c.Rel f ρ σ' fr z { s'' with heap := h } := R.back (f' := newFm f qual scope s.heap.objs.size fa cd) g rfl rfl R''
  have al : Alien f σ' fr s.heap.objs.size := R.alienAt (Nat.le_refl _) fun q => (R''.apart _ q).2.1 rfl
  have hn : ∀ t mo, σ' s.heap.objs.size ≠ some (t, mo) := fun t mo q => R''.neL q rfl
  have R3 := R2.alien al (h' := h.hide s.heap.objs.size) (tk := s3.toks) hn fun a o ne ho => (Heap.hide_ne h ne).trans ho
  have e4 : ({ s3 with heap := h.hide s.heap.objs.size } : Shared) = { s'' with heap := h.hide s.heap.objs.size, toks := s3.toks } := by
   cases s3; cases s''; simp at e1 e2 e3 ⊢; exact (iA2 e1 e2 e3)
  rw [e4]; exact R3
 have hfr : (f.A.deeper (envOfC qual scope s.heap.objs.size fa cd)).frames = some (envOfC qual scope s.heap.objs.size fa cd :: f.top :: f.outer) := G'.frames
 cases b with
 | true =>
  refine eEEA x fun h vs R'' mk => ?_; clear x
  have fi := G'.frame_in R''
  have ff : h.FunFrames f.base (envOfC qual scope s.heap.objs.size fa cd :: f.top :: f.outer) := funFrames_of fun env he => by
   refine eAEEAAA (fi env he) fun k1 L o k2 k3 k4 k5 => ?_
   refine (iAEEAAA k1 L o k2 ?_ k4 k5)
   unfold restOf at k3
   split at k3
   · cases k3
   · exact k3
  refine leaveB_new (base := hideAll h (s.heap.objs.size :: frameAddrs (f.top :: f.outer))) hfr rfl (fun b o q => of_hideAll _ q) (funFrames_hide ff fun env he a ha => ?_) mk fun h' t x1 xB x2 x3 x4 => ?_
  · rcases List.mem_cons.mp he with rfl | he
    · cases ha; exact .head _
    · exact .tail _ (List.mem_filterMap.mpr (iEA env he ha))
  · exact hP _ (iE3 (h.hide s.heap.objs.size) t vs (iA5 (key R'' _ rfl rfl rfl) x1 x3 x2 (fun b o q => ((Heap.UpToSlots.of_keeps mk.keeps).trans x4) b o (Heap.of_hide q)) xB))
 | false =>
  refine eEEEAAAAA x fun h t vs R'' x1 x2 x3 x4 xB => ?_; clear x
  refine leaveB_on hfr rfl x1 xB fun h' y1 yB y2 => ?_
  exact hP _ (iE3 (h.hide s.heap.objs.size) t vs (iA5 (key R'' _ rfl rfl rfl) y1 x2 (x3.of_slots y2) (fun b o q => (x4.trans y2) b o (Heap.of_hide q)) yB))
theorem WFn.fnX {c : Cx} {n : Nat} {hn : Bool} {sc : Scope} {a : Nat} {ps : List Str} {body : List Stmt} {scope : Scope} (F : FnAt c a ps body scope) {as : List MV} {ρ : Lo} {Q : MV -> Hp -> Prop} {X : EX} {σ : Hp} (hl : as.length = ps.length)
 (h : WSs c ⟨n, hn, scope⟩ body (bindLo ps as fun _ => none) (fun m _ σ' => Q m.val σ') (fun _ C e _ σ' => X false C e σ') σ) : WFn c ⟨n + 1, hn, sc⟩ a as ρ Q X σ := fun us iu f fr z s hsc hh g R => by
 obtain ⟨⟨oc, od, osl, name, qual, params, dV, kV, doc, pm, an, cdv, ct, ho, hcd, hb⟩, hs⟩ := F
 refine eA5 (scopeOk_of hs) fun hk hco hgen hps hcl hnd => ?_
 have hroom : f.A.depth < recursionLimit := by have := g.room; omega
 refine codeAny_call_function hroom (g.inK R _ _ ho) rfl hco hgen rfl (codeRec_of (g.inK R) hcd) ?_
 rw [hb us (by rw [<- iu.length, hl])]
 refine wpAny_pure ?_
 refine wpAny_newFunctionEnv_cells hk (fun x hx => ?_) fun env' he s' x => ?_
 · have hx' := hps x.1 (List.of_mem_zip hx).1
   exact hx'.imp id fun q => ⟨q, cellsFrom_some _ _ _ (.inl q)⟩
 · subst he
   refine ⟨(g.at R).nolimit.keeps x.toInCall.keep, codeAny_func ?_⟩
   have G' := newFm_good g R (qual := qual) (fa := a) (cd := cdv) hs
   have R' := newFm_rel g R (qual := qual) (fa := a) (cd := cdv) hs iu x
   refine wuse6 (h (newFm f qual scope s.heap.objs.size a cdv) _ z s' rfl (fun q => hh q) G' R') (fun fl s'' m ρ' σ' is R'' q => ?_) fun ev s'' x => ?_
   · refine (iEEAA m.val σ' ?_ (R.back (f' := newFm f qual scope s.heap.objs.size a cdv) g rfl rfl R'') q)
     cases m with
     | ret v => refine eEA is fun u z1' z2' => ?_; clear is; have is := z2'; clear z2'; subst z1'; exact is
     | next => cases is; rfl
     | brk => cases is; rfl
     | cont => cases is; rfl
   · refine eE5 x fun b C e ρ' σ' y0' => eA2 y0' fun z1' xr hx => ?_; clear x; subst z1'
     exact leave_call g R hs xr fun s3 x3 => (iE5 false C e ρ σ' (iA3 rfl x3 rfl hx))
end Mine
open PySem PySem.W PyProof.Rows
namespace Mine
theorem Rel.landed {c : Cx} {n : Nat} {f : Fm} {fr : Nat -> Option Obj} {ρ : Lo} {σ : Hp} {z s : Shared} {h h' : Heap} (g : Good c n f fr) (R : c.Rel f ρ σ fr z { s with heap := h })
 (B : ∀ b o, (hideAll h (frameAddrs (f.top :: f.outer))).get? b = some o -> h'.get? b = some o) (U : h.UpToSlots h') (N : ∀ m, h.Ns f.L m -> h'.Ns f.L m) : c.Rel f ρ σ fr z { s with heap := h' } := by
 have st : ∀ a, a ∉ frameAddrs (f.top :: f.outer) -> ∀ o, h.get? a = some o -> h'.get? a = some o := fun a ha o ho => B a o (hideAll_get _ ho ha)
 have own : ∀ a t mo, σ a = some (t, mo) -> a ∉ frameAddrs (f.top :: f.outer) := fun a t mo e hm => by
  rcases g.slots a hm with q | q
  · exact R.neL e q
  · obtain ⟨o, ho⟩ := g.slotIn a q
    by_cases hk : mo.isK = true
    · cases mo <;> first | cases hk | skip
      have := R.kl a t _ _ e
      rw [g.apart a q] at this; cases this
    · have := (R.apart a (Foot.of_some e (by simpa using hk))).1
      rw [ho] at this; cases this
 have nf : ∀ a o, a ∈ frameAddrs (f.top :: f.outer) -> fr a = some o -> ∀ vs, o.data ≠ .fields vs := fun a o hm e => by
  refine eEA (List.mem_filterMap.mp hm) fun env he hf => ?_
  rcases List.mem_cons.mp he with rfl | he
  · refine eEAA g.topL fun L hL hc _ => ?_
    rw [hL] at hf
    cases hf
    rcases hc with q | ⟨_, o', ho', hd⟩
    · have := R.frame.1; rw [q] at e; rw [this] at e; cases e
    · rw [ho'] at e; cases e; exact hd
  · refine eAEEAAA (g.outer env he) fun _ L o' hf' _ ho' hd => ?_
    rw [hf'] at hf
    cases hf
    rw [ho'] at e; cases e; exact hd
 exact {
  same := R.same
  keep := fun a o e => by
   refine eEA (R.keep a o e) fun sl e1 e2 => ?_
   by_cases hm : a ∈ frameAddrs (f.top :: f.outer)
   · rcases g.slots a hm with q | q
     · have := R.frame.1; rw [q] at e; rw [this] at e; cases e
     · obtain ⟨sl', e3⟩ := U a _ e1 (nf a o hm e)
       exact (iEA sl' e3 (fun q' => absurd q q'))
   · exact (iEA sl (st a hm _ e1) e2)
  objs := fun a t mo e => (R.objs a t mo e).of_same (fun o ho => st a (own a t mo e) o ho) fun d o hi ha ho => by
   refine st d (fun hm => ?_) o ho
   subst ha
   cases mo <;> first | cases hi | skip
   have hf := R.apart d (.inr (iE3 _ _ _ e))
   rcases g.slots d hm with q | q
   · exact hf.2.1 q
   · obtain ⟨o', ho'⟩ := g.slotIn d q
     rw [hf.1] at ho'; cases ho'
  wf := R.wf
  apart := R.apart
  ns := by refine eEA R.ns fun m hn q => ?_; exact (iEA m (N m hn) q)
  cel := fun x k hk => by
   refine eEEA (R.cel x k hk) fun o v ho r => ?_
   refine (iEEA o v (st k (fun hm => ?_) o ho) r)
   have hf := R.frame.2 x k hk
   rcases g.slots k hm with q | q
   · exact hf.2 q
   · obtain ⟨o', ho'⟩ := g.slotIn k q
     rw [hf.1] at ho'; cases ho'
  frame := R.frame
  kl := R.kl }
end Mine
open PySem PySem.W PyProof.Rows
namespace Mine
theorem matches_own {M : Model} {A : Around} {E : Value -> Shared -> Prop} {s : Shared} {K : Frag} {e C D : Nat} {oe : Obj} {b : Bool} {Q : Bool -> Shared -> Prop} (X : K.In s.heap) (he : s.heap.get? e = some oe) (hc : oe.cls = .ref C)
 (h0 : (clsIn K D).isSome = true) (h1 : typeIn K (.ref D) = some (.type "type")) (h2 : subIn K (.ref D) (.type "BaseException") = some true) (h3 : subIn K (.ref C) (.ref D) = some b) (hq : Q b s) : wpAny M A (excMatches (.ref e) (.ref D)) Q E s := by
 have LT := looks_typeIn (M := M) X h1
 have LD := looks_subIn (M := M) X h2
 have LC := looks_subIn (M := M) X h3
 have LI : Looks M s.heap (isInstance (.ref D) (.type "tuple")) false := LT.andThen (Looks.of_pure tc_notTuple)
 have LY : Looks M s.heap (isType (.ref D)) true := by
  unfold clsIn at h0
  split at h0
  · rename_i c' d' cd' sl' ho
    intro A' Q' E' s' k q
    unfold isType loadHead
    exact wpAny_bind (wpAny_loadPart (k _ _ (X _ _ ho)) (wpAny_pure q))
  · cases h0
 have LE : Looks M s.heap (isExcClass (.ref D)) true := LY.andThen LD
 have Le : Looks M s.heap (typeOf (.ref e)) (.ref C) := hc ▸ (Looks.ld he).andThen .now
 unfold excMatches
 refine wpAny_bind (LI.here ?_)
 cases b <;> (repeat (first | (with_reducible refine LE.here ?_) | (with_reducible refine Le.here ?_) | (with_reducible refine LC.here ?_) | wp_step)) <;> exact hq
theorem noteFrame_home {env env' : Env} (h : env.frame = env'.frame) (e : Value) : noteFrame e env = noteFrame e env' := by
 unfold noteFrame PySem.frameOf; rw [h]
theorem funFrames_at {h base : Heap} {l : List Env} (H : h.FunFrames base l) : ∀ env ∈ l, ∃ L o, env.frame = some L /\ h.get? L = some o /\ ∀ vs, o.data ≠ .fields vs := by
 induction l with
 | nil => intro e he; cases he
 | cons env l ih =>
  intro e he
  refine eA2 H fun _ z1' r => ?_; clear H; obtain ⟨L, o, k2, _, k3, k4⟩ := z1'
  rcases List.mem_cons.mp he with rfl | he
  · exact (iEEAA L o k2 k3 k4)
  · exact ih r e he
theorem fly_none {h h' : Heap} {l : List Env} {e : Nat} {cls a0 : Value} (fl : Heap.FlyingW (hideAll h (frameAddrs l)) l e cls a0 h') : h.get? e = none := by
 cases q : h.get? e with
 | none => rfl
 | some o =>
  by_cases hm : e ∈ frameAddrs l
  · refine eEA (List.mem_filterMap.mp hm) fun env he hf => ?_
    refine eEEAA (funFrames_at fl.2.2.1 env he) fun L o' h1 h2 h3 => ?_
    refine eEEAAA fl.first fun oe ws hoe hoec hoed hoe0 => ?_
    rw [h1] at hf
    cases hf
    rw [hoe] at h2
    cases h2
    exact absurd hoed (h3 _)
  · have := hideAll_get _ q hm
    rw [fl.2.1] at this
    cases this
section
variable {c : Cx} {n : Nat} {f : Fm} {fr : Nat -> Option Obj} {ρ : Lo} {σ : Hp} {z s : Shared} {C e : Nat}
theorem XRel.rel (g : Good c n f fr) (x : XRel c false f ρ σ fr z s C e) : c.Rel f ρ σ fr z s := by
 refine eEEEAAAAA x fun h t vs R fl ht tup U _ => ?_; clear x
 exact R.landed g (h' := s.heap) fl.1 U fun m hn => U.ns hn
theorem XRel.exc (g : Good c n f fr) (x : XRel c false f ρ σ fr z s C e) (t : Nat) : c.Rel f ρ (σ.put e t (.exc C)) fr z s := by
 have R' := x.rel g
 refine eEEEAAAAA x fun h t' vs R fl ht tup U _ => ?_; clear x
 have hn : h.get? e = none := fly_none fl
 refine eEEAAA fl.first fun oe ws hoe hoec hoed hoe0 => ?_
 exact {
  same := R'.same
  keep := R'.keep
  objs := fun a t1 mo q => by
   by_cases ha : a = e
   · subst ha; rw [Hp.put_self] at q; cases q; exact (iEAA oe hoe hoec (by unfold notCls; rw [hoed]))
   · rw [Hp.put_ne _ _ _ ha] at q; exact R'.objs a t1 mo q
  wf := fun a t1 C' fs q => by
   by_cases ha : a + 1 = e
   · rw [ha, Hp.put_self] at q; cases q
   · rw [Hp.put_ne _ _ _ ha] at q
     by_cases hb : a = e
     · subst hb
       obtain ⟨o, ho⟩ := (R.objs _ t1 _ q).dict_there
       exact absurd (hn.symm.trans ho) nofun
     · rw [Hp.put_ne _ _ _ hb]; exact R'.wf a t1 C' fs q
  apart := fun a fa => by
   by_cases ha : a = e
   · subst ha
     refine (iA2 ?_ (fun q => ?_) (fun y k hk q => ?_))
     · cases q : fr a with
       | none => rfl
       | some o => refine eEA (R.keep a o q) fun sl ho _ => ?_; exact absurd (hn.symm.trans ho) nofun
     · refine eEA R.ns fun m z1' _ => ?_; obtain ⟨o, es, ep, ho, _⟩ := z1'
       rw [<- q] at ho
       exact absurd (hn.symm.trans ho) nofun
     · refine eEEA (R.cel y k hk) fun o v ho _ => ?_
       rw [<- q] at ho
       exact absurd (hn.symm.trans ho) nofun
   · refine R'.apart a ?_
     rcases fa with ⟨t1, mo, fa, fk⟩ | ⟨t1, C', fs, fa⟩
     · rw [Hp.put_ne _ _ _ ha] at fa; exact .of_some fa fk
     · by_cases hb : a + 1 = e
       · rw [hb, Hp.put_self] at fa; cases fa
       · rw [Hp.put_ne _ _ _ hb] at fa; exact .inr (iE3 t1 C' fs fa)
  ns := R'.ns
  cel := R'.cel
  frame := R'.frame
  kl := fun a t1 xs o q => by
   by_cases ha : a = e
   · subst ha; rw [Hp.put_self] at q; cases q
   · rw [Hp.put_ne _ _ _ ha] at q; exact R'.kl a t1 xs o q }
end
def Lo.del (ρ : Lo) (x : Str) : Lo := fun y => if y = x then none else ρ y
theorem Rel.delLocal {c : Cx} {f : Fm} {ρ : Lo} {σ : Hp} {fr : Nat -> Option Obj} {z s : Shared} (R : c.Rel f ρ σ fr z s) {x : Str} {v : Option Value} {m : Str -> Option Value} {h' : Heap} {tk : Nat}
 (hm : ∀ y, f.env.scope.names.lookup y = some .local -> OptIs (ρ y) (m y)) (hn : h'.Ns f.env.locals (fun y => if y = x then v else m y)) (hs : Heap.SameBut f.env.locals s.heap h')
 (hc : ∀ k, (x, k) ∉ f.env.cells) (hcl : ∀ y k, (y, k) ∈ f.env.cells -> k ≠ f.env.locals) : c.Rel f (ρ.del x) σ fr z { s with heap := h', toks := tk } where
 same := R.same
 keep := fun a o e => let ⟨sl, e1, e2⟩ := R.keep a o e; (iEA sl ((hs.2 a fun q => by have := R.frame.1; rw [show f.L = a from q.symm, e] at this; cases this).trans e1) e2)
 objs := fun a t mo e => (R.objs a t mo e).of_same (fun o e' => (hs.2 a (R.neL e)).trans e') fun d o hi ed e' => (hs.2 d (by
  subst ed
  cases mo <;> first | cases hi | skip
  exact (R.apart d (.inr (iE3 _ _ _ e))).2.1)).trans e'
 wf := R.wf
 apart := R.apart
 ns := ⟨_, hn, fun y hy => by
  by_cases q : y = x
  · subst q; simp only [Lo.del, if_true]; exact trivial
  · simp only [Lo.del, if_neg q]; exact hm y hy⟩
 cel := fun y k hk => by
  refine eEEAA (R.cel y k hk) fun o v' e d r => ?_
  refine (iEEAA o v' ((hs.2 k (hcl y k hk)).trans e) d ?_)
  have : y ≠ x := fun q => hc k (q ▸ hk)
  simp only [Lo.del, if_neg this]; exact r
 frame := R.frame
 kl := R.kl
def WH (c : Cx) (i : Ix) (hs : List ExceptHandler) (C e : Nat) (ρ : Lo) (Q : MF -> Lo -> Hp -> Prop) (X : SX) (σ : Hp) : Prop :=
 ∀ f fr z s, f.env.scope = i.sc -> (i.hn = true -> f.A.handled = none) -> Good c i.n f fr -> XRel c false f ρ σ fr z s C e ->
  wpAny c.M f.A (handleBy (.ref e) f.env hs) (fun fl s' => ∃ m ρ' σ', MF.Is m fl /\ c.Rel f ρ' σ' fr z s' /\ Q m ρ' σ') (XPost c f fr z X) s
section
variable {c : Cx} {i : Ix} {ρ : Lo} {σ : Hp} {X : SX} {Q : MF -> Lo -> Hp -> Prop}
theorem WS.try {body : List Stmt} {h₀ : ExceptHandler} {hs : List ExceptHandler} {pos : Pos} (h : WSs c i body ρ Q (fun b C e ρ₁ σ₁ => b = false /\ WH c i (h₀ :: hs) C e ρ₁ Q X σ₁) σ) : WS c i (.Try body (h₀ :: hs) [] [] pos) ρ Q X σ := fun f fr z s a b g R => by
 refine wpAny_Try_except (wpAny_mono (h f fr z s a b g R) (fun fl s₁ x => ?_) fun ev s₁ x => ?_)
 · refine eEEEAA x fun m ρ' σ' is R₁ q => ?_; clear x
   cases m with
   | next => cases is; exact wpAny_execs_nil (iEEEAA (.next) ρ' σ' rfl R₁ q)
   | brk => cases is; exact (iEEEAA (.brk) ρ' σ' rfl R₁ q)
   | cont => cases is; exact (iEEEAA (.cont) ρ' σ' rfl R₁ q)
   | ret v => refine eEA is fun u z1' z2' => ?_; clear is; have is := z2'; clear z2'; subst z1'; exact (iEEEAA (.ret v) ρ' σ' (iEA u rfl is) R₁ q)
 · refine eE5 x fun b' C e ρ' σ' y0' => eA3 y0' fun z1' xr z2' hw => ?_; clear x; subst z1'; subst z2'
   refine eEEEAAAAA xr fun h₁ t vs R₁ fl ht tup U B => ?_; clear xr
   refine eEA g.topL fun L hL _ => ?_
   rw [noteFrame_home g.home]
   refine noteB_on g.frames hL fl B fun h₄ held B₄ U₄ => ?_
   refine landB held B₄ fun h₅ fl₅ B₅ U₅ => ?_
   exact hw f fr z _ a b g (iE3 h₁ t vs (iA5 R₁ fl₅ ht ((tup.of_slots U₄).of_slots U₅) ((U.trans U₄).trans U₅) B₅))
structure HandOk (c : Cx) (i : Ix) (x : Str) (D : Nat) : Prop where
 kind : i.sc.names.lookup x = some .globalImplicit
 glob : c.glob x = some (.ref D)
 cls : (clsIn c.K D).isSome = true
 typ : typeIn c.K (.ref D) = some (.type "type")
 exc : subIn c.K (.ref D) (.type "BaseException") = some true
theorem test_own {x : Str} {np pos : Pos} {C D e : Nat} {b : Bool} (ho : HandOk c i x D) (hsub : subIn c.K (.ref C) (.ref D) = some b) {f : Fm} {fr : Nat -> Option Obj} {z s : Shared} {P : Result -> Shared -> Prop} (a : f.env.scope = i.sc) (g : Good c i.n f fr)
 (xr : XRel c false f ρ σ fr z s C e) (h : P (.ok (if b then .brk else .next)) s) : codeAny c.M (f.A.mark (some (.ref e))) (.handlers (.ref e) [.ExceptHandler (some (.Name x np)) none [] pos] f.env) P s := by
 have R := xr.rel g
 refine eEEEAAAAA xr fun h₁ t vs R₁ fl ht tup U _ => ?_; clear xr
 refine eEEAAA fl.first fun oe ws hoe hoec hoed hoe0 => ?_
 refine codeAny_handlers_test ?_
 obtain ⟨hd, ⟨u, hu, is⟩ | ⟨hno, hn, u, hu, is⟩⟩ := g.ok.glob x _ ho.glob
 · cases is
   exact Calls.Name_function_global g.kind (kindAt a ho.kind) (Calls.loadGlobal_global (mg := c.mg) (v := .ref D) (by rw [g.globals]; exact (g.at R).g) (mg_of g.K g.top.g hu) (matches_own (K := c.K) (g.inK R) hoe hoec ho.cls ho.typ ho.exc hsub h)) hd
 · cases is
   exact Calls.Name_function_global g.kind (kindAt a ho.kind) (Calls.loadGlobal_builtin (mg := c.mg) (mb := c.mb) (v := .ref D) (by rw [g.globals]; exact (g.at R).g) (mg_none_of g.K g.top.g hno) (by rw [g.builtins]; exact (g.at R).b)
    ((g.top.builtins x hn).trans hu) (matches_own (K := c.K) (g.inK R) hoe hoec ho.cls ho.typ ho.exc hsub h)) hd
theorem Good.marked {n : Nat} {f : Fm} {fr : Nat -> Option Obj} (g : Good c n f fr) {o : Option Value} : Good c n { f with A := f.A.mark o } fr := by
 exact {
  ok := g.ok, base := g.base, apart := g.apart, K := g.K, top := g.top, kind := g.kind, globals := g.globals, celled := g.celled, cellk := g.cellk, cellnd := g.cellnd, builtins := g.builtins
  room := g.room, units := g.units, frames := g.frames, topk := g.topk, low := g.low, slots := g.slots, topL := g.topL, slotIn := g.slotIn, home := g.home, outer := g.outer }
theorem WH.hitAs {x y : Str} {np : Pos} {b₀ : Stmt} {suite : List Stmt} {pos : Pos} {rest : List ExceptHandler} {C D e : Nat} (t : Nat) (ho : HandOk c i x D) (hsub : subIn c.K (.ref C) (.ref D) = some true) (hl : i.sc.names.lookup y = some .local)
 (h : σ e = none -> WSs c ⟨i.n, false, i.sc⟩ (b₀ :: suite) (ρ.put y (.ref e)) (fun m ρ' σ' => Q m (ρ'.del y) σ') noSX (σ.put e t (.exc C))) :
 WH c i (.ExceptHandler (some (.Name x np)) (some y) (b₀ :: suite) pos :: rest) C e ρ Q X σ := fun f fr z s a b g xr => by
 refine wpAny_handleBy_cons (test_own ho hsub a g xr ?_) (by intro q; cases q)
 refine eEEEAAAAA xr fun h₁ t' vs R₁ fl ht tup U B => ?_; clear xr
 show codeAny _ _ _ _ _
 refine codeAny_handlers_suite_as (landB_again fl B fun h₆ fl₆ B₆ U₆ => ?_)
 have xr₆ : XRel c false f ρ σ fr z { s with heap := h₆ } C e := (iE3 h₁ t' vs (iA5 R₁ fl₆ ht (tup.of_slots U₆) (U.trans U₆) B₆))
 have fresh : σ e = none := by
  cases q : σ e with
  | none => rfl
  | some p => obtain ⟨t1, mo⟩ := p; obtain ⟨o, ho⟩ := (R₁.objs e t1 mo q).there; exact absurd ((fly_none fl).symm.trans ho) nofun
 have hW : WSt c ⟨i.n, false, i.sc⟩ y (.ref e) ρ (fun ρ₁ σ₁ => WSs c ⟨i.n, false, i.sc⟩ (b₀ :: suite) ρ₁ (fun m ρ' σ' => Q m (ρ'.del y) σ') noSX σ₁) noSX (σ.put e t (.exc C)) := WSt.local hl (h fresh)
 refine wuse4 (hW (.ref e) rfl { f with A := f.A.mark (some (.ref e)) } fr z _ a (fun q => by cases q) g.marked (xr₆.exc g t).withA) (fun _ s₂ ρ₂ σ₂ R₂ h₂ => ?_) fun _ _ x => noSX_elim x
 refine wpAny_mono (h₂ { f with A := f.A.mark (some (.ref e)) } fr z _ a (fun q => by cases q) g.marked R₂) (fun fl s₃ x => ?_) fun _ _ x => noSX_elim x
 refine eEEEAA x fun m ρ' σ' is R₇ q => ?_; clear x
 have R₈ : c.Rel f ρ' σ' fr z s₃ := R₇.ofA
 refine eEA R₈.ns fun mm hn hm => ?_
 refine wpAny_nameGoes_keeps (kindAt a hl) hn ?_ fun h' v hn' hs' => (iEEEAA m (ρ'.del y) σ' is (R₈.delLocal hm hn' hs' (fun k hk => g.cellk y k hk (kindAt a hl)) (fun y k hk => g.cellnd.2.2 y k hk)) q)
 rw [g.kind]; rfl
end
section
variable {c : Cx} {n : Nat} {hn : Bool} {sc : Scope} {ρ : Lo} {σ : Hp} {X : SX} {Q : MF -> Lo -> Hp -> Prop}
theorem WH.hitAsA {x y : Str} {np : Pos} {b₀ : Stmt} {suite : List Stmt} {pos : Pos} {rest : List ExceptHandler} {C D e : Nat} (t : Nat) (ho : HandOk c ⟨n, hn, sc⟩ x D) (hsub : subIn c.K (.ref C) (.ref D) = some true) (hl : sc.names.lookup y = some .local)
 (h : σ e = none -> WSs c ⟨n, false, sc⟩ (b₀ :: suite) (ρ.put y (.ref e)) (fun m ρ' σ' => Q m (ρ'.del y) σ') noSX (σ.put e t (.exc C))) :
 WH c ⟨n, hn, sc⟩ (.ExceptHandler (some (.Name x np)) (some y) (b₀ :: suite) pos :: rest) C e ρ Q X σ := WH.hitAs t ho hsub hl h
end
section
variable {c : Cx} {n : Nat} {hn : Bool} {sc : Scope} {a : Nat} {body : List Stmt} {scope : Scope} {ρ : Lo} {Q : MV -> Hp -> Prop} {X : EX} {σ : Hp} {p1 p2 p3 p4 : Str} {a1 a2 a3 a4 : MV}
theorem WFn.fn1X (F : FnAt c a [p1] body scope) (h : WSs c ⟨n, hn, scope⟩ body (ρ0.put p1 a1) (fun m _ σ' => Q m.val σ') (fun _ C e _ σ' => X false C e σ') σ) : WFn c ⟨n + 1, hn, sc⟩ a [a1] ρ Q X σ := WFn.fnX F rfl h
theorem WFn.fn2X (F : FnAt c a [p1, p2] body scope) (h : WSs c ⟨n, hn, scope⟩ body ((ρ0.put p1 a1).put p2 a2) (fun m _ σ' => Q m.val σ') (fun _ C e _ σ' => X false C e σ') σ) : WFn c ⟨n + 1, hn, sc⟩ a [a1, a2] ρ Q X σ := WFn.fnX F rfl h
theorem WFn.fn3X (F : FnAt c a [p1, p2, p3] body scope) (h : WSs c ⟨n, hn, scope⟩ body (((ρ0.put p1 a1).put p2 a2).put p3 a3) (fun m _ σ' => Q m.val σ') (fun _ C e _ σ' => X false C e σ') σ) : WFn c ⟨n + 1, hn, sc⟩ a [a1, a2, a3] ρ Q X σ := WFn.fnX F rfl h
theorem WFn.fn4X (F : FnAt c a [p1, p2, p3, p4] body scope) (h : WSs c ⟨n, hn, scope⟩ body ((((ρ0.put p1 a1).put p2 a2).put p3 a3).put p4 a4) (fun m _ σ' => Q m.val σ') (fun _ C e _ σ' => X false C e σ') σ) : WFn c ⟨n + 1, hn, sc⟩ a [a1, a2, a3, a4] ρ Q X σ := WFn.fnX F rfl h
end
end Mine
open PySem PySem.W PyProof.Rows
namespace Mine
section
variable {prog : Program} {w : World} {A : Around} {E : Value -> Shared -> Prop} {s : Shared} {Q : Value -> Shared -> Prop} {K : Frag} {x C : Nat} {o : Obj} {c : Value}
end
section
variable {c : Cx} {i : Ix} {ρ : Lo} {σ : Hp} {X : EX} {Q : MV -> Hp -> Prop}
theorem WB.addL {a b : Nat} {xs ys : List MV} (t : Nat) (ha : ListAt σ a xs) (hb : ListAt σ b ys) (hz : xs.length + ys.length <= 1000000) (h : ∀ B, Fresh σ B -> Q (.ref B) (σ.put B t (.list (xs ++ ys)))) : WB c i .Add (.ref a) (.ref b) ρ Q X σ := fun v u iv iu f fr z s _ _ g R => by
 cases iv; cases iu
 refine eEA (R.isList ha) fun its hi r => ?_
 refine eEA (R.isList hb) fun its2 hi2 r2 => ?_
 refine eEA R.ns fun m hn hm => ?_
 have e1 : its.size = xs.length := by rw [r.length]; simp
 have e2 : its2.size = ys.length := by rw [r2.length]; simp
 refine add_arrays (hsz := size_ok (by rw [e1, e2]; exact hz)) (fr_all hn) (news_all s.heap f.env.locals) hi hi2 fun h' F' N' => ?_
 have K' : Kept f.L (fun _ => False) s.heap h' := Kept.of_news hn F' N' fun p hp _ => .tail _ hp
 exact (iEEAA (.ref s.heap.objs.size) _ rfl (R.alloc (mo := .list (xs ++ ys)) (tk := s.toks) t K' (Nat.le_refl _) (fun q => by cases q) (iEEA _ 0 ((N' (s.heap.objs.size, _) (.head _)).1) (by simpa using r.append r2))) (h _ R.fresh))
end
end Mine
open PySem PySem.W PyProof.Rows
namespace Mine
def EqV (c : Cx) (σ : Hp) (k : Nat) (x y : MV) (b : Bool) : Prop := ∀ f ρ fr z s A v u, c.Rel f ρ σ fr z s -> x.Is v -> y.Is u -> A.units + k < cLine -> SeqAt.EqAt A s v u b
def RcV (c : Cx) (σ : Hp) (k : Nat) (x y : MV) (b : Bool) : Prop := ∀ f ρ fr z s A v u, c.Rel f ρ σ fr z s -> x.Is v -> y.Is u -> A.units + k < cLine -> SeqAt.RcAt A s v u b
def RnV (c : Cx) (σ : Hp) (k : Nat) (x y : MV) (b : Bool) : Prop := ∀ f ρ fr z s A v u, c.Rel f ρ σ fr z s -> x.Is v -> y.Is u -> A.units + k < cLine -> SeqAt.RcNeAt A s v u b
abbrev EqVs (c : Cx) (σ : Hp) (k : Nat) (xs ys : List MV) : Prop := All2 (fun x y => EqV c σ k x y true) xs ys
section
variable {c : Cx} {i : Ix} {ρ : Lo} {σ : Hp} {k : Nat}
theorem EqV.int {m n : Int} : EqV c σ k (.int m) (.int n) (m == n) := fun f ρ fr z s A v u R iv iu hu => by obtain ⟨t, rfl⟩ := iv; obtain ⟨t', rfl⟩ := iu; exact .int_int _ _ _ _
theorem EqV.str {m n : Str} : EqV c σ k (.str m) (.str n) (m == n) := fun f ρ fr z s A v u R iv iu hu => by obtain ⟨t, rfl⟩ := iv; obtain ⟨t', rfl⟩ := iu; exact .str_str _ _ _ _
theorem EqV.bool {m n : Bool} : EqV c σ k (.bool m) (.bool n) (m == n) := fun f ρ fr z s A v u R iv iu hu => by cases iv; cases iu; exact .bool_bool _ _
theorem EqV.intT {m n : Int} (h : m = n) : EqV c σ k (.int m) (.int n) true := by have := @EqV.int c σ k m n; rwa [beq_iff_eq.mpr h] at this
theorem EqV.strT {m n : Str} (h : m = n) : EqV c σ k (.str m) (.str n) true := by have := @EqV.str c σ k m n; rwa [beq_iff_eq.mpr h] at this
theorem EqV.boolT {m n : Bool} (h : m = n) : EqV c σ k (.bool m) (.bool n) true := by have := @EqV.bool c σ k m n; rwa [beq_iff_eq.mpr h] at this
theorem EqV.same {a : Nat} : EqV c σ k (.ref a) (.ref a) true := fun f ρ fr z s A v u R iv iu hu => by cases iv; cases iu; exact .same _
theorem EqV.of_rc {a b : Nat} (h : RcV c σ k (.ref a) (.ref b) true) : EqV c σ k (.ref a) (.ref b) true := fun f ρ fr z s A v u R iv iu hu => by
 by_cases q : a = b
 · subst q; exact EqV.same f ρ fr z s A v u R iv iu hu
 · have := h f ρ fr z s A v u R iv iu hu
   cases iv; cases iu; exact .of_refs q this
theorem eqs_at {f : Fm} {fr : Nat -> Option Obj} {z s : Shared} {A : Around} {xs ys : List MV} (h : EqVs c σ k xs ys) (R : c.Rel f ρ σ fr z s) (hu : A.units + k < cLine) : ∀ {l m : List Value}, All2 MV.Is xs l -> All2 MV.Is ys m -> ∀ (j : Nat) (v u : Value), l[j]? = some v -> m[j]? = some u -> SeqAt.EqAt A s v u true := by
 induction h with
 | nil => intro l m h1 h2 j v u e; cases h1; simp at e
 | cons r _ ih =>
  intro l m h1 h2 j v u e1 e2
  cases h1 with | cons a1 b1 =>
  cases h2 with | cons a2 b2 =>
  cases j with
  | zero => simp at e1 e2; subst e1; subst e2; exact r _ _ _ _ _ _ _ _ R a1 a2 hu
  | succ j => simp at e1 e2; exact ih b1 b2 j v u e1 e2
theorem all_true (n : Nat) : (List.range n).all (fun _ => true) = true := by rw [List.all_eq_true]; exact fun _ _ => rfl
theorem RcV.listT {a b : Nat} {xs ys : List MV} (ha : ListAt σ a xs) (hb : ListAt σ b ys) (h : EqVs c σ k xs ys) : RcV c σ (k + 1) (.ref a) (.ref b) true := fun f ρ fr z s A v u R iv iu hu => by
 cases iv; cases iu
 refine eEA (R.isList ha) fun its hi r => ?_
 refine eEA (R.isList hb) fun its2 hi2 r2 => ?_
 have hs : its.size = its2.size := by have := r.length; have := r2.length; have := h.length; simp at *; omega
 have := SeqAt.RcAt.lists (A := A) (e := fun _ => true) hi hi2 hs (by omega) fun j h1 h2 => eqs_at h R (by show A.units + 1 + k < cLine; omega) r r2 j _ _ (by simp [h1]) (by simp [h2])
 rwa [all_true] at this
theorem RcV.listF {a b : Nat} {xs ys : List MV} (ha : ListAt σ a xs) (hb : ListAt σ b ys) (h : xs.length ≠ ys.length) : RcV c σ 1 (.ref a) (.ref b) false := fun f ρ fr z s A v u R iv iu hu => by
 cases iv; cases iu
 refine eEA (R.isList ha) fun its hi r => ?_
 refine eEA (R.isList hb) fun its2 hi2 r2 => ?_
 have hs : (its.size != its2.size) = true := by have := r.length; have := r2.length; simp at *; omega
 exact .lists_lengths hi hi2 hs (by omega)
theorem RcV.tupT {a b t t' : Nat} {xs ys : List MV} (ha : σ a = some (t, .tuple xs)) (hb : σ b = some (t', .tuple ys)) (h : EqVs c σ k xs ys) : RcV c σ (k + 1) (.ref a) (.ref b) true := fun f ρ fr z s A v u R iv iu hu => by
 cases iv; cases iu
 refine eEA (Rel.isTuple R ha) fun its hi r => ?_
 refine eEA (Rel.isTuple R hb) fun its2 hi2 r2 => ?_
 have hs : its.size = its2.size := by have := r.length; have := r2.length; have := h.length; simp at *; omega
 have := SeqAt.RcAt.tuples (A := A) (e := fun _ => true) hi hi2 (by omega) fun j h1 h2 => eqs_at h R (by show A.units + 1 + k < cLine; omega) r r2 j _ _ (by simp [h1]) (by simp [h2])
 rwa [all_true, hs, beq_self_eq_true] at this
theorem RnV.listT {a b : Nat} {xs ys : List MV} (ha : ListAt σ a xs) (hb : ListAt σ b ys) (h : EqVs c σ k xs ys) : RnV c σ (k + 1) (.ref a) (.ref b) false := fun f ρ fr z s A v u R iv iu hu => by
 cases iv; cases iu
 refine eEA (R.isList ha) fun its hi r => ?_
 refine eEA (R.isList hb) fun its2 hi2 r2 => ?_
 have hs : its.size = its2.size := by have := r.length; have := r2.length; have := h.length; simp at *; omega
 have := SeqAt.RcNeAt.lists (A := A) (e := fun _ => true) hi hi2 hs (by omega) fun j h1 h2 => eqs_at h R (by show A.units + 1 + k < cLine; omega) r r2 j _ _ (by simp [h1]) (by simp [h2])
 rwa [all_true] at this
theorem RnV.listF {a b : Nat} {xs ys : List MV} (ha : ListAt σ a xs) (hb : ListAt σ b ys) (h : xs.length ≠ ys.length) : RnV c σ 1 (.ref a) (.ref b) true := fun f ρ fr z s A v u R iv iu hu => by
 cases iv; cases iu
 refine eEA (R.isList ha) fun its hi r => ?_
 refine eEA (R.isList hb) fun its2 hi2 r2 => ?_
 have hs : (its.size != its2.size) = true := by have := r.length; have := r2.length; simp at *; omega
 exact .lists_lengths hi hi2 hs (by omega)
variable {X : EX} {Q : MV -> Hp -> Prop}
theorem WC.eq {x y : MV} {b : Bool} (hn : 1 <= i.n) (hk : k <= 39) (h : RcV c σ k x y b) (hq : Q (.bool b) σ) : WC c i .Eq x y ρ Q X σ := fun v u iv iu f fr z s _ _ g R =>
 cmp_ofEq (h f ρ fr z s f.A v u R iv iu (by have := g.units; omega) c.prog c.w _ _ (iEEAA (.bool b) σ rfl R hq))
theorem WC.ne {x y : MV} {b : Bool} (hn : 1 <= i.n) (hk : k <= 39) (h : RnV c σ k x y b) (hq : Q (.bool b) σ) : WC c i .NotEq x y ρ Q X σ := fun v u iv iu f fr z s _ _ g R =>
 cmp_ofNotEq (h f ρ fr z s f.A v u R iv iu (by have := g.units; omega) c.prog c.w _ _ (iEEAA (.bool b) σ rfl R hq))
end
theorem FnAt.unique {c : Cx} {a : Nat} {ps ps' : List Str} {b b' : List Stmt} {s s' : Scope} (F : FnAt c a ps b s) (F' : FnAt c a ps' b' s') : b = b' /\ s = s' := by
 refine eE13 F.at_ fun oc od osl name qual params dV kV doc pm an cdv ct y0' => eA1 y0' fun e _ => ?_
 refine eE13 F'.at_ fun oc' od' osl' name' qual' params' dV' kV' doc' pm' an' cdv' ct' y0' => eA1 y0' fun e' _ => ?_
 have q := Oi (e.symm.trans e')
 have q2 : Data.func (fnX name qual params b s [] dV kV doc pm an cdv ct) = .func (fnX name' qual' params' b' s' [] dV' kV' doc' pm' an' cdv' ct') := congrArg Obj.data q
 have q3 := Data.func.inj q2
 exact ⟨FuncBody.stmts.inj (congrArg (·.body) q3), congrArg (·.scope) q3⟩
end Mine
open PySem PySem.W PyProof.Rows
namespace Mine
section
variable {c : Cx} {i : Ix} {ρ : Lo} {σ : Hp} {X : EX} {Q : MV -> Hp -> Prop}
end
theorem WComp.inv {c : Cx} {i : Ix} {x : Str} {elt : Expr} {still : Hp -> Prop} {Q : List MV -> Hp -> Prop} {ρ : Lo} (P : Nat -> List MV -> Hp -> Prop) : ∀ (items : List MV) (j : Nat) {acc : List MV} {σ : Hp}, P j acc σ ->
 (∀ k v acc σ, items[k]? = some v -> P (j + k) acc σ -> still σ /\ WE c i elt (ρ.put x v) (fun r σ' => P (j + k + 1) (acc ++ [r]) σ') noX σ) -> (∀ acc σ, P (j + items.length) acc σ -> still σ /\ Q acc σ) -> WComp c i x elt [] still Q ρ items acc σ
 | [], j, acc, σ, h0, _, he => he acc σ h0
 | v :: vs, j, acc, σ, h0, hs, he => by
  obtain ⟨h1, h2⟩ := hs 0 v acc σ rfl h0
  refine ⟨h1, ?_⟩
  refine (if_tt (A := WE c i elt (ρ.put x v) (fun u σ₂ => WComp c i x elt [] still Q ρ vs (acc ++ [u]) σ₂) noX σ) ?_ : ite _ _ (WComp c i x elt [] still Q ρ vs acc σ))
  refine W.mono h2 fun r σ' h3 => WComp.inv P vs (j + 1) h3 (fun k w acc' σ'' hk hp => ?_) fun acc' σ'' hp => he acc' σ'' ?_
  · have e : j + 1 + k = j + (k + 1) := by omega
    rw [e] at hp ⊢
    exact hs (k + 1) w acc' σ'' (by simpa using hk) hp
  · have e : j + (v :: vs).length = j + 1 + vs.length := by rw [List.length_cons]; omega
    rw [e]; exact hp
end Mine
open PySem PySem.W PyProof.Rows
namespace Mine
section
variable {c : Cx} {i : Ix} {ρ : Lo} {σ : Hp} {X : EX} {Q : MV -> Hp -> Prop}
theorem WSub.tuple {value slice a t k xs v} (hs : NoSlice slice) (hl : σ a = some (t, .tuple xs)) (h0 : 0 <= k) (h1 : k < 2 ^ 63) (hx : xs[k.toNat]? = some v) (h : Q v σ) : WSub c i value slice (.ref a) (.int k) ρ Q X σ := fun v' u iv iu f fr z s _ _ g R => by
 cases iv; obtain ⟨tk, rfl⟩ := iu
 refine eEA (Rel.isTuple R hl) fun its hi r => ?_
 refine eEA (r.get hx) fun x hx' is => ?_
 have hlt : k.toNat < its.size := by have := (Gs hx').1; simpa using this
 have hT : s.TypeIs (.ref a) "tuple" := by refine eEAA hi fun o ho hc _ => ?_; clear hi; exact (iEA o ho hc)
 refine tail_any hT PySem.F.slot_tuple_getitem.lookup (getItem_tuple (j := k.toNat) hi (by omega) h1 ?_ (by simpa using hx') (iEEAA v σ is R h)) (hs _ _)
 unfold seqIndex?
 simp
 omega
end
section
variable {c : Cx} {n : Nat} {hn : Bool} {sc scope : Scope} {x : Str} {ρ : Lo} {σ : Hp}
theorem WE.compA {px : Pos} {elt iter : Expr} {ifs : List Expr} {pos : Pos} {X : EX} {Q : MV -> Hp -> Prop} (t : Nat) (hh : hn = true) (hs : NotSet iter) (hok : compOk scope sc x = true) (h0 : ρ (".0" : Str) = Option.none)
 (h : WE c ⟨n, hn, sc⟩ iter ρ (fun v σ₁ => ∃ xs still, Iterable σ₁ v xs still /\ xs.length <= 1000000 /\ WComp c ⟨n, hn, relab scope sc⟩ x elt ifs still (fun vs σ₂ => ∀ D, σ₂ D = Option.none -> Q (.ref D) (σ₂.put D t (.list vs))) ρ xs [] σ₁) X σ) :
 WE c ⟨n, hn, sc⟩ (.ListComp elt [⟨.Name x px, iter, ifs, 0⟩] scope pos) ρ Q X σ := WE.comp t hh hs hok h0 h
end
end Mine
open PySem PySem.W PyProof.Rows
namespace Mine
end Mine
open PySem PySem.W PyProof.Rows
namespace Mine
section
variable {prog : Program} {w : World} {A : Around} {E : Value -> Shared -> Prop} {K : Frag} {x C : Nat} {o : Obj}
theorem exc_check {M : Model} {nameV : Value} {Q : Unit -> Shared -> Prop} {h : Heap} {g : Array GenState} {d : Drawn} {t : Nat} {os : OsState} (X : K.In h) (hx : h.get? x = some o) (hc : o.cls = .ref C) (m2 : mroIn K C (.type "BaseException") = some true) (hq : Q () ⟨h, g, d, t, os⟩) :
 wpAny M A (checkBuiltinCall "BaseException.__getattribute__" ⟨[.ref x, nameV], []⟩) Q E ⟨h, g, d, t, os⟩ := by
 have hk : builtinKind "BaseException.__getattribute__" = some .slot := by decide +kernel
 have hsplit : splitId "BaseException.__getattribute__" = some ("BaseException", "__getattribute__") := by decide +kernel
 have ha := PySem.F.args_bexc_ga (.ref x) nameV
 have L0 : Looks M h (typeOf (.ref x)) (.ref C) := hc ▸ (Looks.ld hx).andThen .now
 have LI : Looks M h (isInstance (.ref x) (.type "BaseException")) true := L0.andThen (looks_mroIn X m2)
 simp only [checkBuiltinCall, hk, hsplit]
 refine wpAny_bind (LI.at ?_)
 repeat (any_goals (first | assumption | wp_step))
theorem exc_class_get {tp : Value} {R : Result -> Shared -> Prop} {h : Heap} {g : Array GenState} {d : Drawn} {t : Nat} {os : OsState} (X : K.In h) (hx : h.get? x = some o) (hc : o.cls = .ref C) (m1 : mroIn K C (.type "object") = some true) (hq : R (.ok (.ret (.ref C))) ⟨h, g, d, t, os⟩) :
 codeAny (model prog w) A (.call (.builtin "getset_descriptor.__get__") ⟨[.builtin "object.__class__", .ref x, tp], []⟩) R ⟨h, g, d, t, os⟩ := by
 have L0 : Looks (model prog w) h (typeOf (.ref x)) (.ref C) := hc ▸ (Looks.ld hx).andThen .now
 have L1 := looks_mroIn (M := model prog w) X m1
 have hT5 : (⟨h, g, d, t, os⟩ : Shared).TypeIs (.builtin "object.__class__") "getset_descriptor" := PySem.F.typeOf_object_class
 have ho := KF.owner_class
 refine codeAny_call_builtin PySem.F.slot_gs_get.plain PySem.F.entry_gs_get (PySem.F.slot_gs_get.check _ _ _ _ _ _ _ _ hT5 (PySem.F.args_gs_get _ _ _) ?_)
 unfold Builtin.«getset_descriptor.__get__» Builtin.Getset_descriptor.descrGet
 rw [dga_obj]
 refine wpAny_bind (wpAny_pure ?_)
 unfold Builtin.Getset_descriptor.descrGetter Builtin.Getset_descriptor.descrCheckInstance Builtin.Getset_descriptor.descrNameAndClass isInstance
 simp only [KF.owner_class]
 repeat (any_goals (first | assumption | (with_reducible refine L0.at ?_) | (with_reducible refine L1.at ?_) | wp_step))
 refine ⟨Code.quiet_builtin _ (by decide +kernel), codeAny_builtin PySem.F.entry_object_class ?_⟩
 unfold Builtin.«object.__class__» shownTypeOf
 repeat (any_goals (first | assumption | (with_reducible refine L0.at ?_) | wp_step))
theorem exc_class_by {tk : Tok} {fill expr : Bool} {Q : Value -> Shared -> Prop} {h : Heap} {g : Array GenState} {d : Drawn} {t : Nat} {os : OsState} (X : K.In h) (hx : h.get? x = some o) (hc : o.cls = .ref C) (f1 : findIn K (.ref C) "__getattribute__" = some (some (.builtin "BaseException.__getattribute__"))) (f2 : findIn K (.ref C) "__getattr__" = some none)
 (f3 : findIn K (.ref C) "__class__" = some (some (.builtin "object.__class__"))) (m1 : mroIn K C (.type "object") = some true) (m2 : mroIn K C (.type "BaseException") = some true) (hq : Q (.ref C) ⟨h, g, d, t, os⟩) :
 wpAny (model prog w) A (getAttrBy (.ref x) (.str "__class__" tk) fill expr) Q E ⟨h, g, d, t, os⟩ := by
 have L0 : Looks (model prog w) h (typeOf (.ref x)) (.ref C) := hc ▸ (Looks.ld hx).andThen .now
 have L1 := looks_findIn (M := model prog w) X f1
 have L2 := looks_findIn (M := model prog w) X f2
 have L3 := looks_findIn (M := model prog w) X f3
 have hb := PySem.F.attrBase_ValueError.ga.bind (.ref x)
 have hx0 : (expr && onTheHeap (Value.builtin "BaseException.__getattribute__")) = false := by cases expr <;> rfl
 have hx2 : (Value.builtin "BaseException.__getattribute__" == Value.builtin "object.__getattribute__") = false := by decide +kernel
 have hx1 : (onTheHeap (Value.ref C) && Value.builtin "BaseException.__getattribute__" == Value.builtin "object.__getattribute__") = false := by rw [hx2]; rfl
 repeat (any_goals (first | assumption | (with_reducible refine L0.at ?_) | (with_reducible refine L1.at ?_) | (with_reducible refine L2.at ?_) | (with_reducible refine L3.at ?_) | wp_step))
 refine codeAny_call_builtin PySem.F.attrBase_ValueError.ga.plain PySem.F.entry_bexc_ga (exc_check X hx hc m2 ?_)
 have f5 := PySem.F.typeOf_object_class
 have f6 := PySem.F.slot_gs_get.lookup
 have f7 := PySem.F.slot_gs_set.lookup
 repeat (any_goals (first | assumption | (with_reducible refine L0.at ?_) | (with_reducible refine L3.at ?_) | wp_step))
 refine exc_class_get X hx hc m1 ?_
 repeat (any_goals (first | assumption | wp_step))
theorem exc_class {Q : Option Value -> Shared -> Prop} {s : Shared} (X : K.In s.heap) (hx : s.heap.get? x = some o) (hc : o.cls = .ref C) (f1 : findIn K (.ref C) "__getattribute__" = some (some (.builtin "BaseException.__getattribute__"))) (f2 : findIn K (.ref C) "__getattr__" = some none)
 (f3 : findIn K (.ref C) "__class__" = some (some (.builtin "object.__class__"))) (m1 : mroIn K C (.type "object") = some true) (m2 : mroIn K C (.type "BaseException") = some true) (hq : Q (some (.ref C)) { s with toks := s.toks + 1 }) :
 wpAny (model prog w) A (getAttr? (.ref x) "__class__") Q E s := by
 obtain ⟨h, g, d, t, os⟩ := s
 unfold getAttr? getAttrBy?
 repeat (any_goals (first | assumption | with_reducible apply exc_class_by X hx hc f1 f2 f3 m1 m2 | wp_step))
structure ExcOk (K : Frag) (C : Nat) : Prop where
 cls : (clsIn K C).isSome = true
 f1 : findIn K (.ref C) "__getattribute__" = some (some (.builtin "BaseException.__getattribute__"))
 f2 : findIn K (.ref C) "__getattr__" = some none
 f3 : findIn K (.ref C) "__class__" = some (some (.builtin "object.__class__"))
 m1 : mroIn K C (.type "object") = some true
 m2 : mroIn K C (.type "BaseException") = some true
theorem kitx_exc (hc : o.cls = .ref C) (ok : ExcOk K C) : KitX K (.ref x) (.ref C) (fun h => h.get? x = some o) where
 ty := fun M h _ p => hc ▸ (Looks.ld p).andThen .now
 it := fun _ _ X _ => by
  have h0 := ok.cls
  unfold clsIn at h0
  split at h0
  · rename_i c' d' cd' sl' ho
    intro A' Q' E' s' k q
    unfold isType loadHead
    exact wpAny_bind (wpAny_loadPart (k _ _ (X _ _ ho)) (wpAny_pure q))
  · cases h0
 ne := fun h tp dd its n sl X htp => by
  have h0 := ok.cls
  refine Bool.eq_false_iff.mpr fun q => ?_
  have e : C = tp := Value.ref.inj (beq_iff_eq.mp q)
  subst e
  unfold clsIn at h0
  split at h0
  · rename_i c' d' cd' sl' ho
    have z := (X _ _ ho).symm.trans htp
    cases z
  · cases h0
 ca := fun X p k => exc_class X p hc ok.f1 ok.f2 ok.f3 ok.m1 ok.m2 k
end
section
variable {c : Cx} {i : Ix} {ρ : Lo} {σ : Hp} {X : EX} {Q : MV -> Hp -> Prop}
theorem WCall.isExc {e t C : Nat} {m : MV} {cv : Value} {b : Bool} (hm : σ e = some (t, .exc C)) (ok : ExcOk c.K C) (hv : ∀ u, m.Is u -> u = cv) (k : kitOne c.K (.ref C) cv = some b) (h : Q (.bool b) σ) : WCall c i (.con (.builtin "isinstance")) [.ref e, m] ρ Q X σ := fun v us iv iu f fr z s _ _ g R => by
 cases iv
 refine eEEAA iu.two fun u1 u2 z1' i1 i2 => ?_; subst z1'
 cases i1
 have := hv _ i2
 subst this
 refine eEAA (R.objs _ _ _ hm) fun o ho hc _ => ?_
 exact kia_one (kitx_exc hc ok) (g.inK R) ho k (by intro q; cases q) fun tk => (iEEAA (.bool b) σ rfl (R.toks _) h)
theorem isRef {a : Nat} : ∀ u, (MV.ref a).Is u -> u = .ref a := fun u h => h
theorem isCon {v : Value} : ∀ u, (MV.con v).Is u -> u = v := fun u h => h
theorem WComp.filter {x : Str} {elt t : Expr} {still : Hp -> Prop} {Q : List MV -> Hp -> Prop} (hst : still σ) {p : MV -> Bool} {f : MV -> MV} : ∀ {items acc : List MV} (h : ∀ v ∈ items, ∀ K : Bool -> Hp -> Prop, K (p v) σ -> WT c i t (ρ.put x v) K noX σ)
 (h' : ∀ v ∈ items, p v = true -> ∀ K : MV -> Hp -> Prop, K (f v) σ -> WE c i elt (ρ.put x v) K noX σ) (hq : Q (acc ++ (items.filter p).map f) σ), WComp c i x elt [t] still Q ρ items acc σ
 | [], acc, _, _, hq => ⟨hst, by simpa using hq⟩
 | v :: vs, acc, h, h', hq => by
  refine ⟨hst, ?_⟩
  refine h v (List.mem_cons_self ..) _ ?_
  have r : ∀ acc', Q (acc' ++ (vs.filter p).map f) σ -> WComp c i x elt [t] still Q ρ vs acc' σ := fun acc' hq' => WComp.filter hst (fun u hu => h u (List.mem_cons_of_mem _ hu)) (fun u hu => h' u (List.mem_cons_of_mem _ hu)) hq'
  cases hp : p v with
  | true =>
   refine if_tt (h' v (List.mem_cons_self ..) hp _ (r _ ?_))
   rw [List.filter_cons, if_pos hp] at hq
   simpa using hq
  | false =>
   refine if_ff (r _ ?_)
   rw [List.filter_cons, if_neg (by rw [hp]; decide)] at hq
   exact hq
end
end Mine
open PySem PySem.W PyProof.Rows
namespace Mine
section
variable {c : Cx} {i : Ix} {ρ : Lo} {σ : Hp} {X : EX} {Q : MV -> Hp -> Prop}
theorem WSub.str {value slice : Expr} {x : Str} {k : Int} {ch : Nat} (hs : NoSlice slice) (h0 : 0 <= k) (h1 : k < 2 ^ 63) (hc : x.cps[k.toNat]? = some ch) (h : Q (.str ⟨#[ch]⟩) σ) : WSub c i value slice (.str x) (.int k) ρ Q X σ := fun v' u iv iu f fr z s _ _ g R => by
 obtain ⟨t, rfl⟩ := iv; obtain ⟨tk, rfl⟩ := iu
 have hlt : k.toNat < x.length := by
  have := (Array.getElem?_eq_some_iff.mp hc).1
  exact this
 refine tail_any (typeIs_str s x t) PySem.F.slot_str_getitem.lookup (PySem.P.getItem_str (c := ch) ?_ ?_ (iEEAA (.str ⟨#[ch]⟩) σ ⟨_, rfl⟩ (R.toks _) h)) (hs _ _)
 · simp; omega
 · have e : seqIndex? k x.length = some k.toNat := by unfold seqIndex?; simp; omega
   rw [e]; exact hc
end
end Mine
open PySem PySem.W PyProof.Rows
namespace Mine
section
variable {c : Cx} {i : Ix} {ρ : Lo} {σ : Hp} {X : EX} {Q : MV -> Hp -> Prop}
end
end Mine
open PySem PySem.W PyProof.Rows
set_option maxRecDepth 100000
namespace Mine
open PySem.SeqAt PySem.MeetsSeq in
open PySem.SeqAt PySem.MeetsSeq in
section
variable {c : Cx} {i : Ix} {ρ : Lo} {σ : Hp} {X : EX} {Q : MV -> Hp -> Prop} {k : Nat}
theorem WSub.listNeg {value slice : Expr} {a : Nat} {k : Int} {xs : List MV} {v : MV} (hs : NoSlice slice) (hl : ListAt σ a xs) (h0 : k < 0) (h1 : -(xs.length : Int) <= k) (h2 : -(2 ^ 63) <= k) (hx : xs[(k + xs.length).toNat]? = some v) (h : Q v σ) : WSub c i value slice (.ref a) (.int k) ρ Q X σ := fun v' u iv iu f fr z s _ _ g R => by
 cases iv; obtain ⟨t, rfl⟩ := iu
 refine eEA (R.isList hl) fun its hi r => ?_
 have e : its.size = xs.length := by rw [r.length]; simp
 refine eEA (r.get hx) fun x hx' is => ?_
 exact tail_any hi.typeIs slot_list_getitem.lookup (wpAny_getItem_list_neg hi h0 (by rw [e]; exact h1) h2 (by rw [e]; simpa using hx') (iEEAA v σ is R h)) (hs _ _)
theorem sliceRange_back (n : Nat) : sliceRange ((n : Int) - 1) (-1) (-1) = (List.range n).map fun k => n - 1 - k := by
 unfold sliceRange
 have e : ((if (-1 : Int) > 0 then (if (n : Int) - 1 < -1 then (-1 - ((n : Int) - 1) + -1 - 1) / -1 else 0) else (if (n : Int) - 1 > -1 then ((n : Int) - 1 - -1 - -1 - 1) / (- -1) else 0)) : Int).toNat = n := by
  rw [if_neg (by decide)]
  split
  · have : ((n : Int) - 1 - -1 - -1 - 1) / (- -1) = (n : Int) := by
     rw [show (- -1 : Int) = 1 from rfl, Int.ediv_one]; omega
    rw [this, Int.toNat_natCast]
  · omega
 dsimp only
 rw [e]
 apply List.map_congr_left
 intro k hk
 have := List.mem_range.mp hk
 omega
theorem back_pick {α : Type} : ∀ (n : Nat) (xs : List α), n <= xs.length -> ((List.range n).map fun k => n - 1 - k).filterMap (fun k => xs[k]?) = (xs.take n).reverse
 | 0, xs, _ => by simp
 | n + 1, xs, h => by
  have hlt : n < xs.length := h
  rw [List.range_succ_eq_map, List.map_cons, List.filterMap_cons, List.map_map]
  have e0 : xs[n + 1 - 1 - 0]? = some xs[n] := by simp [hlt]
  rw [e0]
  have e1 : (fun k => n + 1 - 1 - k) ∘ Nat.succ = fun k => n - 1 - k := by funext k; simp only [Function.comp]; omega
  rw [e1, back_pick n xs (Nat.le_of_lt hlt), List.take_add_one, List.getElem?_eq_getElem hlt, List.reverse_append]
  rfl
theorem slicePick_back (its : Array Value) : slicePick its Option.none Option.none (some (-1)) = its.toList.reverse.toArray := by
 unfold slicePick
 have e : sliceBounds Option.none Option.none (some (-1)) its.size = ((its.size : Int) - 1, -1, -1) := rfl
 rw [e]
 dsimp only
 rw [sliceRange_back]
 have := back_pick its.size its.toList (by simp)
 have e2 : (fun k : Nat => its.toList[k]?) = fun k : Nat => its[k]? := by funext k; simp
 rw [e2] at this
 rw [this, List.take_of_length_le (by simp)]
theorem all2_rev {α β : Type} {R : α -> β -> Prop} {l : List α} {m : List β} (h : All2 R l m) : All2 R l.reverse m.reverse := by
 induction h with
 | nil => exact .nil
 | cons r _ ih => rw [List.reverse_cons, List.reverse_cons]; exact ih.append (.cons r .nil)
end
end Mine
open PySem PySem.W PyProof.Rows
set_option maxRecDepth 100000
namespace Mine
section
variable {c : Cx} {i : Ix} {ρ : Lo} {σ : Hp} {X : EX} {Q : MV -> Hp -> Prop} {k : Nat}
theorem WCall.lenStr {x : Str} (hz : x.length <= 1000000) (h : Q (.int x.length) σ) : WCall c i (.con (.builtin "len")) [.str x] ρ Q X σ := fun v us iv iu f fr z s _ _ g R => by
 cases iv
 refine eE1 iu.one fun u y0' => eA1 y0' fun z1' y1' => eE1 y1' fun t z2' => ?_; subst z1'; subst z2'
 exact len_str (by omega) (iEEAA (.int x.length) σ ⟨_, rfl⟩ (R.toks _) h)
theorem WC.inText {x y : Str} (h : Q (.bool !(Builtin.Str.occurrences x y 0 x.length 1).isEmpty) σ) : WC c i .In (.str y) (.str x) ρ Q X σ := fun v u iv iu f fr z s _ _ g R => by
 obtain ⟨t, rfl⟩ := iv; obtain ⟨t', rfl⟩ := iu
 exact in_str (iEEAA (.bool _) σ rfl R h)
theorem WM.join {x : Str} {Q : MV × List MV -> Hp -> Prop} (h : Q (.con (.builtin "str.join"), [.str x]) σ) : WM c i (.str x) "join" ρ Q X σ := fun v pl iv f fr z s _ _ g R => by
 obtain ⟨t, rfl⟩ := iv
 exact GM.join (iEEAA (.con (.builtin "str.join"), [.str x]) σ ⟨rfl, .cons ⟨_, rfl⟩ .nil⟩ R h)
theorem strsAre_of {ys : List Str} {vs : List Value} (r : All2 MV.Is (ys.map .str) vs) : StrsAre vs ys := by
 induction ys generalizing vs with
 | nil => cases r; exact .nil
 | cons y ys ih => cases r with | cons a b => obtain ⟨t, rfl⟩ := a; exact .cons y t (ih b)
theorem WCall.join {x : Str} {a : Nat} {ys : List Str} (hl : ListAt σ a (ys.map .str)) (hok : (ys.map (·.length)).sum + ys.length * x.length <= 16777216) (h : Q (.str (Txt.join x ys)) σ) : WCall c i (.con (.builtin "str.join")) [.str x, .ref a] ρ Q X σ := fun v us iv iu f fr z s _ _ g R => by
 cases iv
 refine eEEAA iu.two fun u1 u2 z1' z2' i2 => ?_; subst z1'; obtain ⟨t, rfl⟩ := z2'
 cases i2
 refine eEA (R.isList hl) fun its hi r => ?_
 exact join_list hi (strsAre_of r) hok fun t' k => (iEEAA (.str _) σ ⟨_, rfl⟩ (R.toks _) h)
theorem all2_swap {α β : Type} {R : α -> β -> Prop} {l : List α} {m : List β} (h : All2 R l m) : All2 (fun b a => R a b) m l := by
 induction h with
 | nil => exact .nil
 | cons r _ ih => exact .cons r ih
theorem range_all (bs : List Bool) : (List.range bs.length).all (fun j => bs.getD j true) = bs.all id := by
 rw [Bool.eq_iff_iff, List.all_eq_true, List.all_eq_true]
 constructor
 · intro h b hb
   obtain ⟨j, hj⟩ := Mi hb
   have := h j (List.mem_range.mpr (Gs hj).1)
   rw [List.getD, hj] at this
   exact this
 · intro h j hj
   have hlt := List.mem_range.mp hj
   rw [List.getD, List.getElem?_eq_getElem hlt]
   exact h _ (List.getElem_mem hlt)
theorem WCall.all {a : Nat} {bs : List Bool} (hn : i.hn = true) (hl : ListAt σ a (bs.map .bool)) (h : Q (.bool (bs.all id)) σ) : WCall c i (.con (.builtin "all")) [.ref a] ρ Q X σ := fun v us iv iu f fr z s _ hh g R => by
 cases iv
 refine eEA iu.one fun u z1' i1 => ?_; subst z1'
 cases i1
 refine eEA (R.isList hl) fun its hi r => ?_
 have hlt : a < s.heap.objs.size := by refine eEA hi fun o ho _ => ?_; clear hi; exact Heap.lt_size ho
 have e : its.size = bs.length := by have := r.length; simp at this; omega
 refine call_all_walk (wpAny_pyIter_list hi (iE7 s.heap.objs.size _ _ its.size _ _ (fun j => bs.getD j true) (iA4 rfl (Walks.list (A := f.A.in1) (show f.A.in1.handled = none from hh hn) _ a (Nat.ne_of_lt hlt) its) ⟨(iEAA _ (Heap.get?_push_size _ rfl) rfl rfl), hi.push _⟩ ?_ (fun h' tk k => (iEEAA (.bool (bs.all id)) σ ?_ (R.grown (tk := tk) fun b o eb => k b o (fun q => ?_) (Heap.get?_push_of_some _ eb)) h)))))
 · intro j v s' Q' E' hv hq
   refine eEA ((all2_swap r).get (by simpa using hv)) fun b hb is => ?_
   rw [List.getElem?_map] at hb
   refine eEA (Option.map_eq_some_iff.mp hb) fun b' hb' z1' => ?_; subst z1'
   have : v = .bool b' := is
   subst this
   refine wpAny_truthy_bool ?_
   have e2 : bs.getD j true = b' := by rw [List.getD, hb']; rfl
   have hq' : Q' (bs.getD j true) s' := hq
   rwa [e2] at hq'
 · show Value.bool _ = _
   rw [e, range_all]
 · rw [List.mem_singleton] at q
   subst q
   exact absurd (Heap.lt_size eb) (Nat.lt_irrefl _)
end
end Mine
open PySem PySem.W PyProof.Rows
set_option maxRecDepth 100000
namespace Mine
section
variable {c : Cx} {i : Ix} {ρ : Lo} {σ : Hp} {X : EX} {Q : MV -> Hp -> Prop} {k : Nat}
theorem WE.dict1 {ke ve : Expr} {pos : Pos} (t : Nat) (h : ∀ d, Fresh σ d -> WE c i ke ρ (fun kv σ₁ => WE c i ve ρ (fun v σ₂ => ∃ k, kv = .str k /\ σ₂ d = some (t, .sdict []) /\ Q (.ref d) (σ₂.put d t (.sdict [(k, v)]))) X σ₁) X (σ.put d t (.sdict []))) :
 WE c i (.Dict [some ke] [ve] pos) ρ Q X σ := fun f fr z s a b g R => by
 refine wpAny_Dict_walk (knd := PySem.strKind c.prog c.w) rfl rfl (by simp) (by simp) ?_
 have R₀ := R.alloc (mo := .sdict []) (tk := s.toks) t (.of_grown (grows _ _)) (Nat.le_refl _) (fun q => by cases q) (iAEA (g.modules R (Nat.le_refl _)) _ (Heap.get?_push_size _ rfl) (keyIs_new _ s.heap))
 refine pairTrees_cons_walk ?_
 refine wuse (h _ R.fresh f fr z _ a b g R₀) (fun kv' s₁ kv σ₁ i1 R₁ h₁ => wpAny_mono (h₁ f fr z s₁ a b g R₁) (fun v' s₂ ⟨v, σ₂, i2, R₂, k, e, hd, hq⟩ => pairTrees_nil_walk ?_) fun _ _ x => x) fun _ _ x => x
 subst e
 obtain ⟨tk, rfl⟩ := i1
 refine eAEA (Rel.sdict R₂ hd) fun l kvs hk r => ?_
 have e0 := r.length
 have : kvs = [] := List.eq_nil_of_length_eq_zero e0.symm
 subst this
 refine (iEAA ([(k, v')]) (iA2 (PySem.strKind_is _ _ k tk) rfl trivial) hk (fun h' hk' hs => (iEEAA (.ref s.heap.objs.size) _ rfl (R₂.upd (t' := t) (mo' := .sdict [(k, v)]) hd rfl rfl (.of_same hs (R₂.neL hd)) ⟨l, ?_⟩) hq)))
 refine eEA (Heap.dictOf_iff.mp hk') fun o ho hd' => ?_
 exact ⟨o, ho, _, hd', .cons ⟨rfl, i2⟩ .nil⟩
end
end Mine
open PySem PySem.W PyProof.Rows
set_option maxRecDepth 100000
namespace Mine
section
variable {c : Cx} {i : Ix} {ρ : Lo} {σ : Hp} {X : EX} {Q : MV -> Hp -> Prop} {k : Nat}
end
end Mine
open PySem PySem.W PyProof.Rows
set_option maxRecDepth 100000
namespace Mine
section
variable {c : Cx} {i : Ix} {ρ : Lo} {σ : Hp} {X : SX} {Q : MF -> Lo -> Hp -> Prop}
theorem WS.while {test : Expr} {body : List Stmt} {pos : Pos} (I : Nat -> Lo -> Hp -> Prop) (k : Nat) (h0 : I k ρ σ)
 (h : ∀ k ρ σ, I k ρ σ -> WT c i test ρ (fun b σ₁ => if b then WSs c i body ρ (fun m ρ₂ σ₂ => match m with
  | .next | .cont => ∃ k', k' < k /\ I k' ρ₂ σ₂
  | .brk => Q .next ρ₂ σ₂
  | .ret u => Q (.ret u) ρ₂ σ₂) noSX σ₁ else Q .next ρ σ₁) noX σ) : WS c i (.While test body [] pos) ρ Q X σ := fun f fr z s a b g R => by
 refine wpAny_While (codeAny_mono (codeAny_whileLoop (R := fun r s' => match r with
  | .ok fl => ∃ m ρ' σ', MF.Is m fl /\ c.Rel f ρ' σ' fr z s' /\ Q m ρ' σ'
  | .error e => False) (fun n s' => ∃ ρ' σ', c.Rel f ρ' σ' fr z s' /\ I n ρ' σ') ?_ k (iEEA ρ σ R h0)) fun r s' q => by
   cases r with
   | ok fl => exact q
   | error e => exact q.elim)
 rintro n s' ⟨ρ', σ', R', hI⟩
 refine wpAny_mono (h n ρ' σ' hI f fr z s' a b g R') (fun b' s₂ x => ?_) fun _ _ x => noX_elim x
 refine eEEAA x fun bb σ₁ is R₁ hb => ?_; clear x
 cases is
 cases b' with
 | false => exact wpAny_execs_nil (iEEEAA (.next) ρ' σ₁ rfl R₁ hb)
 | true =>
  refine wpAny_mono (hb f fr z s₂ a b g R₁) (fun fl s₃ y => ?_) fun _ _ x => noSX_elim x
  refine eEEEAA y fun m ρ₂ σ₂ is R₂ hm => ?_; clear y
  cases m with
  | next => cases is; refine eEA hm fun k' hk hI' => ?_; clear hm; exact ⟨k', hk, ρ₂, σ₂, R₂, hI'⟩
  | cont => cases is; refine eEA hm fun k' hk hI' => ?_; clear hm; exact ⟨k', hk, ρ₂, σ₂, R₂, hI'⟩
  | brk => cases is; exact (iEEEAA (.next) ρ₂ σ₂ rfl R₂ hm)
  | ret v => refine eEA is fun u z1' z2' => ?_; clear is; have is := z2'; clear z2'; subst z1'; exact (iEEEAA (.ret v) ρ₂ σ₂ (iEA u rfl is) R₂ hm)
end
end Mine
open PySem PySem.W PyProof.Rows
set_option maxRecDepth 100000
namespace Mine
section
variable {c : Cx} {i : Ix} {ρ : Lo} {σ : Hp} {X : EX} {Q : MV -> Hp -> Prop} {k : Nat}
end
end Mine
open PySem PySem.W PyProof.Rows
set_option maxRecDepth 100000
namespace Mine
section
variable {c : Cx} {i : Ix} {ρ : Lo} {σ : Hp} {X : EX} {Q : MV -> Hp -> Prop} {k : Nat}
end
end Mine
open PySem PySem.W PyProof.Rows
set_option maxRecDepth 100000
namespace Mine
section
variable {prog : Program} {w : World} {A : Around} {E : Value -> Shared -> Prop} {s : Shared}
end
section
variable {prog : Program} {w : World} {A : Around} {E : Value -> Shared -> Prop} {s : Shared}
end
section
variable {c : Cx} {i : Ix} {ρ : Lo} {σ : Hp} {X : EX} {Q : MV -> Hp -> Prop} {k : Nat}
end
end Mine
open PySem PySem.W PyProof.Rows
namespace Mine
section
variable {prog : Program} {w : World} {A : Around} {E : Value -> Shared -> Prop} {s : Shared}
end
section
variable {c : Cx} {i : Ix} {ρ : Lo} {σ : Hp} {X : EX} {Q : MV -> Hp -> Prop}
end
end Mine
open PySem PySem.W PyProof.Rows
set_option maxRecDepth 100000
namespace Mine
section
variable {prog : Program} {w : World} {A : Around} {E : Value -> Shared -> Prop} {s : Shared}
theorem pyHash_none {Q : Int -> Shared -> Prop} (h : Q 0xFCA86420 { s with toks := s.toks + 1 }) : wpAny (model prog w) A (pyHash .none) Q E s := by
 have hT : s.TypeIs .none "NoneType" := rfl
 unfold pyHash
 have hv : [Value.none].any Value.onHeap = false := rfl
 refine wpAny_bind ?_
 rw [cRoomFor, if_neg (by rw [hv]; exact Bool.false_ne_true)]
 refine wpAny_pure ?_
 refine wpAny_bind (wpAny_specialOf hT PySem.F.slot_NoneType_hash.lookup ?_)
 show wpAny _ _ (if (some (Value.builtin "NoneType.__hash__") == some Value.none) = true then _ else _) Q E s
 rw [if_neg (by rw [beq_builtin_none]; exact Bool.false_ne_true)]
 refine wpAny_bind (wpAny_specialOf hT PySem.F.slot_NoneType_hash.lookup ?_)
 show wpAny _ _ (callSpecialIfBoundUnlessNone? .none "__hash__" _ >>= _) Q E s
 refine wpAny_bind (wpAny_callSpecialIfBoundUnlessNone?_slot hT PySem.F.slot_NoneType_hash
  (wpAny_call_entry PySem.F.slot_NoneType_hash hT PySem.F.entry_NoneType_hash
   (show wpAny _ _ (do ret (<- mkInt 0xFCA86420)) _ _ s from wpAny_ret_mkInt ?_) (PySem.F.args_NoneType_hash_1 _)))
 show wpAny _ _ (if (decide (-(2 : Int) ^ 63 <= 0xFCA86420) && decide ((0xFCA86420 : Int) < 2 ^ 63)) = true then _ else _) Q E _
 rw [if_pos (by decide)]
 exact wpAny_pure h
end
def isOpt : Option Str -> Value -> Bool
 | some x, v => Value.isStrOf x v
 | none, .none => true
 | none, _ => false
theorem isOpt_shape {k : Option Str} {v : Value} (h : isOpt k v = true) : (∃ x t, k = some x /\ v = .str x t) ∨ (k = none /\ v = .none) := by
 cases k with
 | some x => obtain ⟨t, rfl⟩ := Value.isStrOf_shape h; exact .inl (iEEA x t rfl rfl)
 | none => cases v <;> first | exact .inr ⟨rfl, rfl⟩ | exact nomatch h
def optKind (prog : Program) (w : World) : KeyKind prog w (Option Str) where
 is := isOpt
 hash := fun k => match k with | some x => hashStr w x | none => 0xFCA86420
 inj := fun v a b ha hb => by
  rcases isOpt_shape ha with ⟨x, t, rfl, rfl⟩ | ⟨rfl, rfl⟩ <;> rcases isOpt_shape hb with ⟨y, u, rfl, e⟩ | ⟨rfl, e⟩
  · injection e with e1; rw [e1]
  · exact nomatch e
  · exact nomatch e
  · rfl
 byValue := fun k v h => by rcases isOpt_shape h with ⟨x, t, rfl, rfl⟩ | ⟨rfl, rfl⟩ <;> rfl
 pyHash := fun hv h => by
  rcases isOpt_shape hv with ⟨x, t, rfl, rfl⟩ | ⟨rfl, rfl⟩
  · exact wpAny_pyHash_str h
  · exact pyHash_none h
 eqBool := fun {A E s a b u v Q} hu hv h => by
  rcases isOpt_shape hu with ⟨x, t, rfl, rfl⟩ | ⟨rfl, rfl⟩ <;> rcases isOpt_shape hv with ⟨y, t', rfl, rfl⟩ | ⟨rfl, rfl⟩
  · refine wpAny_eqBool_str ?_
    have : decide (x = y) = decide (some x = some y) := by by_cases q : x = y <;> simp [q]
    rw [this]; exact h
  · exact SeqAt.EqAt.str_none _ _ prog w E Q h
  · exact SeqAt.EqAt.none_str _ _ prog w E Q h
  · unfold eqBool
    refine wpAny_holding ?_
    exact wpAny_bind (wpAny_rule (wpAny_pure h))
 «strs» := fun k x t v h => by
  rcases isOpt_shape h with ⟨y, t', rfl, e⟩ | ⟨rfl, e⟩
  · injection e with e1; subst e1
    exact (strKind prog w).«strs» x x t v (by show (x == x) = true; simp)
  · exact nomatch e
section
variable {c : Cx} {i : Ix} {ρ : Lo} {σ : Hp} {X : EX} {Q : MV -> Hp -> Prop}
theorem WC.inNone {a t : Nat} {es : List (Str × MV)} (hd : σ a = some (t, .sdict es)) (h : Q (.bool false) σ) : WC c i .In .none (.ref a) ρ Q X σ := fun v u iv iu f fr z s _ _ g R => by
 cases iv; cases iu
 refine eAEA (Rel.sdict R hd) fun l kvs z1' r => ?_; obtain ⟨o, es', ep, ho, he, hdt, hk, hp, hn⟩ := z1'
 have hm : s.heap.MapOf (optKind c.prog c.w) a (fun k => findBy isOpt es' k) := ⟨o, es', ep, ho, he, hdt, fun e hm => by
  refine eEA (hk e hm) fun k h1 h2 => ?_
  exact (iEA (some k) h1 h2), fun _ => rfl⟩
 refine wpAny_in_of (knd := optKind c.prog c.w) (k := none) (key := .none) rfl l hm (iEEAA (.bool _) σ rfl (R.toks _) ?_)
 have e0 : findBy isOpt es' (none : Option Str) = none := by
  unfold findBy
  have : (es'.find? fun e => isOpt none e.key) = none := by
   rw [Array.find?_eq_none]
   intro e hm q
   refine eEA (hk e hm) fun k h1 _ => ?_
   obtain ⟨t', e1⟩ := Value.isStrOf_shape h1
   rw [e1] at q
   exact nomatch q
  rw [this]; rfl
 rw [e0]
 exact h
end
end Mine
open PySem PySem.W PyProof.Rows
namespace Mine
section
variable {c : Cx} {i : Ix} {ρ : Lo} {σ : Hp} {X : EX} {Q : MV -> Hp -> Prop}
theorem WCall.lenDict {a t : Nat} {es : List (Str × MV)} (hd : σ a = some (t, .sdict es)) (hz : es.length <= 1000000) (h : Q (.int es.length) σ) : WCall c i (.con (.builtin "len")) [.ref a] ρ Q X σ := fun v us iv iu f fr z s _ _ g R => by
 cases iv
 refine eEA iu.one fun u z1' i1 => ?_; subst z1'
 cases i1
 refine eAEA (Rel.sdict R hd) fun l kvs hk r => ?_
 have e : kvs.length = es.length := r.length.symm
 exact PySem.call_len_dict l hk (by rw [e]; omega) (iEEAA (.int es.length) σ ⟨_, by rw [e]⟩ (R.toks _) h)
end
end Mine
open PySem PySem.W PyProof.Rows
namespace Mine
theorem tail_slice {prog : Program} {w : World} {A : Around} {E : Value -> Shared -> Prop} {s : Shared} {value st : Expr} {lower upper : Option Expr} {p : Pos} {o i : Value} {T id : String} {Q : Value -> Shared -> Prop} (hT : s.TypeIs o T)
 (hl : typeLookup (.type T) "__getitem__" = pure (some (.builtin id))) (h : wpAny (model prog w) A (getItem o i) Q E s) : wpAny (model prog w) A (subscriptTail value (.Slice lower upper (some st) p) o i) Q E s := by
 unfold subscriptTail
 have fin : wpAny (model prog w) A (operate [o, i] (getItem o i)) (fun r s₃ => wpAny (model prog w) A (letTemporaryGo value o r >>= fun _ => pure r) Q E s₃) E s :=
  wpAny_operating (wpAny_mono h (fun r s₃ h₃ => wpAny_bind (wpAny_letTemporaryGo (wpAny_pure h₃))) fun _ _ x => x)
 first
  | (refine wpAny_bind ?_
     rw [getitemInPython_of_ne hT.not_modules]
     refine wpAny_bind (wpAny_specialOf hT hl ?_)
     first
      | exact wpAny_pure (wpAny_bind fin)
      | exact wpAny_bind (wpAny_pure (wpAny_bind fin))
      | exact wpAny_bind fin)
  | (refine wpAny_bind (wpAny_specialOf hT hl ?_)
     first
      | exact wpAny_bind (wpAny_pure (wpAny_bind fin))
      | exact wpAny_bind fin)
section
variable {c : Cx} {i : Ix} {ρ : Lo} {σ : Hp} {X : EX} {Q : MV -> Hp -> Prop}
theorem WE.reversedE {ve st : Expr} {p pos : Pos} (t : Nat) (h : WE c i ve ρ (fun a σ₁ => WE c i st ρ (fun b σ₂ => ∃ l xs, a = .ref l /\ b = .int (-1) /\ ListAt σ₂ l xs /\ xs.length <= 1000000 /\
 ∀ B, Fresh σ₂ B -> Q (.ref B) (σ₂.put B t (.list xs.reverse))) X σ₁) X σ) : WE c i (.Subscript ve (.Slice Option.none Option.none (some st) p) pos) ρ Q X σ := fun f fr z s a b g R => by
 refine Subscript_ (wuse (h f fr z s a b g R) (fun v s₁ _ σ₁ i1 R₁ h₁ => wpAny_Slice (wpAny_evalPart_none (wpAny_evalPart_none (wpAny_evalPart_some (wuse (h₁ f fr z s₁ a b g R₁) (fun u s₂ _ σ₂ i2 R₂ q9 => ?_) fun _ _ x => x))))) fun _ _ x => x); obtain ⟨l, xs, e1, e2, hl, hz, h₂⟩ := q9
 subst e1; subst e2
 cases i1; obtain ⟨tk, rfl⟩ := i2
 refine eEA (R₂.isList hl) fun its hi' r => ?_
 have e : its.size = xs.length := by rw [r.length]; simp
 refine tail_slice (hi'.push _).typeIs list_getitem_lookup (wpAny_getItem_list_slice (hi'.push _) (Heap.IsSliceOf.new ..) .none .none (.int _ _) (by simp) ?_ (size_ok (by rw [e]; exact hz)))
 rw [Heap.size_push, slicePick_back]
 have kp : ∀ b o, s₂.heap.get? b = some o -> ((s₂.heap.push { cls := .type "slice", data := .fields #[.none, .none, .int (-1) tk] }).push { cls := .type "list", data := .seq its.toList.reverse.toArray }).get? b = some o :=
  fun b o e => Heap.get?_push_of_some _ (Heap.get?_push_of_some _ e)
 have hD : ((s₂.heap.push { cls := .type "slice", data := .fields #[.none, .none, .int (-1) tk] }).push { cls := .type "list", data := .seq its.toList.reverse.toArray }).get? (s₂.heap.objs.size + 1) = some (listOf its.toList.reverse.toArray 0) := by
  have e1 := Heap.get?_push_size (s₂.heap.push { cls := .type "slice", data := .fields #[.none, .none, .int (-1) tk] }) (o := { cls := .type "list", data := .seq its.toList.reverse.toArray }) rfl
  rw [Heap.size_push] at e1
  exact e1
 exact (iEEAA (.ref (s₂.heap.objs.size + 1)) _ rfl (R₂.alloc (mo := .list xs.reverse) (tk := s₂.toks) t (.of_grown kp) (Nat.le_succ _) (fun q => by cases q) (iEEA _ _ hD (by simpa using all2_rev r))) (h₂ _ fun a p e => Nat.lt_succ_of_lt (R₂.some_lt e)))
end
end Mine
open PySem PySem.W PyProof.Rows
namespace Mine
name_quick tw16558215173743560090 for S.findZ by S.findZ_eq
name_quick tw8075568018651887793 for S.findZ by S.findZ_eq
name_quick tw1569294467371176531 for S.findZ by S.findZ_eq
name_quick tw16867206752494618739 for S.findZ by S.findZ_eq
name_quick tw11313744364127287754 for S.findZ by S.findZ_eq
name_quick tw17561685609155626696 for S.findZ by S.findZ_eq
name_quick tw14979626087600564940 for S.findZ by S.findZ_eq
name_quick tw11079736581670838177 for S.findZ by S.findZ_eq
name_quick tw9539479885485572040 for S.findZ by S.findZ_eq
name_quick tw7249307268997179994 for S.findZ by S.findZ_eq
name_quick tw7446928531880210046 for S.findZ by S.findZ_eq
name_quick tw11568815363187515441 for S.findZ by S.findZ_eq
name_quick tw14350764541406611093 for S.findZ by S.findZ_eq
name_quick tw10723460079849321769 for S.findZ by S.findZ_eq
name_quick tw4802206622296518355 for S.findZ by S.findZ_eq
name_quick tw9438727661952587866 for S.findZ by S.findZ_eq
name_quick tw132011934403449861 for S.findZ by S.findZ_eq
name_quick tw10810343834524570367 for S.findZ by S.findZ_eq
name_quick tw16860790470070532269 for S.findZ by S.findZ_eq
name_quick tw14473539162793888280 for S.findZ by S.findZ_eq
name_quick tw196644378293983589 for S.findZ by S.findZ_eq
name_quick tw15199281503961881116 for S.findZ by S.findZ_eq
name_quick tw1189734492583310 for S.findZ by S.findZ_eq
name_quick tw10695241705296601692 for S.findZ by S.findZ_eq
name_quick tw12095823642532355627 for S.findZ by S.findZ_eq
name_quick tw11398097091735476289 for S.findZ by S.findZ_eq
name_quick tw8881496252177385917 for S.findZ by S.findZ_eq
name_quick tw13725850141900786883 for S.findZ by S.findZ_eq
name_quick tw6380782515089751550 for S.findZ by S.findZ_eq
name_quick tw16326889199254633757 for S.findZ by S.findZ_eq
name_quick tw3267979357774110234 for S.findZ by S.findZ_eq
name_quick tw16292439048969090190 for S.findZ by S.findZ_eq
name_quick tw9339011207650244144 for S.findZ by S.findZ_eq
name_quick tw878741703135273975 for S.findZ by S.findZ_eq
name_quick tw2718901123391026995 for S.findZ by S.findZ_eq
name_quick tw17001327861769816259 for S.findZ by S.findZ_eq
name_quick tw18410474027866654770 for S.findZ by S.findZ_eq
name_quick tw460243522976405022 for S.findZ by S.findZ_eq
name_quick tw17134893352704234603 for S.findZ by S.findZ_eq
name_quick tw5706481520468235054 for S.findZ by S.findZ_eq
name_quick tw2504098582860672743 for S.findZ by S.findZ_eq
name_quick tw17475289236778735526 for S.findZ by S.findZ_eq
name_quick tw1355338860687761863 for S.findZ by S.findZ_eq
name_quick tw3315324234476444515 for S.findZ by S.findZ_eq
name_quick tw17024950926791866790 for S.findZ by S.findZ_eq
name_quick tw6952355047532471503 for S.findZ by S.findZ_eq
name_quick tw9265879793445154701 for S.findZ by S.findZ_eq
name_quick tw16865151637890581275 for S.findZ by S.findZ_eq
name_quick tw14209830616999942402 for S.findZ by S.findZ_eq
name_quick tw11790162104776037713 for S.findZ by S.findZ_eq
name_quick tw358454259470677404 for S.findZ by S.findZ_eq
name_quick tw17899373020297197333 for S.findZ by S.findZ_eq
name_quick tw17943406268862710625 for S.findZ by S.findZ_eq
name_quick tw16494616584097029746 for S.findZ by S.findZ_eq
name_quick tw10487160056961263569 for S.findZ by S.findZ_eq
name_quick tw6834602518627153040 for S.findZ by S.findZ_eq
name_quick tw16180483070735683940 for S.findZ by S.findZ_eq
name_quick tw2378363196638174374 for S.findZ by S.findZ_eq
name_quick tw662354867322794072 for S.findZ by S.findZ_eq
name_quick tw441327347791068078 for S.findZ by S.findZ_eq
name_quick tw1708024556718086227 for S.findZ by S.findZ_eq
name_quick tw18263319221461684349 for S.findZ by S.findZ_eq
name_quick tw17846936440860909165 for S.findZ by S.findZ_eq
name_quick tw13640514254501968386 for S.findZ by S.findZ_eq
name_quick tw6307075928179450975 for S.findZ by S.findZ_eq
name_quick tw7009043117176579089 for S.findZ by S.findZ_eq
name_quick tw1218959903707654005 for S.findZ by S.findZ_eq
name_quick tw13581749221687468397 for S.findZ by S.findZ_eq
name_quick tw4901318299020614408 for S.findZ by S.findZ_eq
name_quick tw16437185098154296904 for S.findZ by S.findZ_eq
name_quick tw930746551332336609 for S.findZ by S.findZ_eq
name_quick tw11277716924127702174 for S.findZ by S.findZ_eq
name_quick tw16374537267813192141 for S.findZ by S.findZ_eq
name_quick tw11788150170368784547 for S.findZ by S.findZ_eq
name_quick tw14073706353221006472 for S.findZ by S.findZ_eq
name_quick tw6993175162768986339 for S.findZ by S.findZ_eq
name_quick tw8488268690174267210 for S.findZ by S.findZ_eq
name_quick tw16792545251062261874 for S.findZ by S.findZ_eq
name_quick tw17000155066101142889 for S.findZ by S.findZ_eq
name_quick tw14112274594779413971 for S.findZ by S.findZ_eq
name_quick tw2660918139993853925 for S.findZ by S.findZ_eq
name_quick tw7788680626742099145 for S.findZ by S.findZ_eq
name_quick tw3636048126100218174 for S.findZ by S.findZ_eq
name_quick tw13915792640404377917 for S.findZ by S.findZ_eq
name_quick tw17828083071136270317 for S.findZ by S.findZ_eq
name_quick tw12850107946570832962 for S.findZ by S.findZ_eq
name_quick tw17827458813498177553 for S.findZ by S.findZ_eq
name_quick tw1320183511955256522 for S.findZ by S.findZ_eq
name_quick tw7987952416473584550 for S.findZ by S.findZ_eq
name_quick tw15468230090516036684 for S.findZ by S.findZ_eq
name_quick tw18340240734955500558 for S.findZ by S.findZ_eq
name_quick tw3209381107111851631 for S.findZ by S.findZ_eq
name_quick tw16349216596472256690 for S.findZ by S.findZ_eq
name_quick tw2670528217467546775 for S.findZ by S.findZ_eq
name_quick tw16176465441171805009 for S.findZ by S.findZ_eq
name_quick tw17244072584429378644 for S.findZ by S.findZ_eq
name_quick tw2905824091091238844 for S.findZ by S.findZ_eq
name_quick tw5701610774189311196 for S.findZ by S.findZ_eq
name_quick tw7392212959928792091 for S.findZ by S.findZ_eq
name_quick tw8642067239939848140 for S.findZ by S.findZ_eq
name_quick tw17279654841073493023 for S.findZ by S.findZ_eq
name_quick tw1107438419126420414 for S.findZ by S.findZ_eq
name_quick tw14097648870716263351 for S.findZ by S.findZ_eq
name_quick tw5248340912204065574 for S.findZ by S.findZ_eq
name_quick tw12635297910168745909 for S.findZ by S.findZ_eq
name_quick tw3880421473898291048 for S.findZ by S.findZ_eq
name_quick tw16966814322356759819 for S.findZ by S.findZ_eq
name_quick tw16846860572762119324 for S.findZ by S.findZ_eq
name_quick tw7892128664451923741 for S.findZ by S.findZ_eq
name_quick tw6789855027759293466 for S.findZ by S.findZ_eq
name_quick tw1886563365779066154 for S.findZ by S.findZ_eq
name_quick tw219737044198020058 for S.findZ by S.findZ_eq
name_quick tw17863021456227041891 for S.findZ by S.findZ_eq
name_quick tw3039592710220408265 for S.findZ by S.findZ_eq
name_quick tw13759679279233594173 for S.findZ by S.findZ_eq
name_quick tw17139780236743587250 for S.findZ by S.findZ_eq
name_quick tw18345786424863182364 for S.findZ by S.findZ_eq
name_quick tw5149714755402479525 for S.findZ by S.findZ_eq
name_quick tw1617757218408452269 for S.findZ by S.findZ_eq
name_quick tw16655555454665732581 for S.findZ by S.findZ_eq
name_quick tw12488000419048109807 for S.findZ by S.findZ_eq
name_quick tw9537544019596298400 for S.findZ by S.findZ_eq
name_quick tw11707433790658880453 for S.findZ by S.findZ_eq
name_quick tw8450942572126056277 for S.findZ by S.findZ_eq
name_quick tw12726346659333912481 for S.findZ by S.findZ_eq
name_quick tw9759809726879904816 for S.findZ by S.findZ_eq
name_quick tw17274371674624000324 for S.findZ by S.findZ_eq
name_quick tw16548257151911338427 for S.findZ by S.findZ_eq
name_quick tw16697116713213952808 for S.findZ by S.findZ_eq
name_quick tw13471461260053382970 for S.findZ by S.findZ_eq
name_quick tw8989982439271903415 for S.findZ by S.findZ_eq
name_quick tw7081425507203772304 for S.findZ by S.findZ_eq
name_quick tw2719445374943340272 for S.findZ by S.findZ_eq
name_quick tw10833955939284561965 for S.findZ by S.findZ_eq
name_quick tw11518781747449614426 for S.findZ by S.findZ_eq
name_quick tw14884601019740666482 for S.findZ by S.findZ_eq
name_quick tw8987815912523675519 for S.findZ by S.findZ_eq
name_quick tw13314330512976039754 for S.findZ by S.findZ_eq
name_quick tw15880737140895825463 for S.findZ by S.findZ_eq
name_quick tw4921902886906138986 for S.findZ by S.findZ_eq
name_quick tw2074212568426387133 for S.findZ by S.findZ_eq
name_quick tw1041845030581493396 for S.findZ by S.findZ_eq
name_quick tw9821368406582625841 for S.findZ by S.findZ_eq
name_quick tw16413963553889246368 for S.findZ by S.findZ_eq
name_quick tw17344680358763864322 for S.findZ by S.findZ_eq
name_quick tw2599325451414397859 for S.findZ by S.findZ_eq
name_quick tw18211773271919218964 for S.findZ by S.findZ_eq
name_quick tw9501820088010722379 for S.findZ by S.findZ_eq
name_quick tw313226197891681235 for S.findZ by S.findZ_eq
name_quick tw15562837088269578035 for S.findZ by S.findZ_eq
name_quick tw2354101950205528012 for S.findZ by S.findZ_eq
name_quick tw13981391230805400906 for S.findZ by S.findZ_eq
name_quick tw17954471519018878134 for S.findZ by S.findZ_eq
name_quick tw11740888236361828772 for S.findZ by S.findZ_eq
name_quick tw7504490480230193789 for S.findZ by S.findZ_eq
name_quick tw18273839248471157720 for S.findZ by S.findZ_eq
name_quick tw4278798014809849964 for S.findZ by S.findZ_eq
name_quick tw9626621113073979434 for S.findZ by S.findZ_eq
name_quick tw13559156169165276386 for S.findZ by S.findZ_eq
name_quick tw14224011070414065920 for S.findZ by S.findZ_eq
name_quick tw13580328829973926956 for S.findZ by S.findZ_eq
name_quick tw6179359751918216688 for S.findZ by S.findZ_eq
name_quick tw2001226814458364393 for S.findZ by S.findZ_eq
name_quick tw8902219603052485911 for S.findZ by S.findZ_eq
name_quick tw4172830789200971933 for S.findZ by S.findZ_eq
name_quick tw15542503528162795033 for S.findZ by S.findZ_eq
name_quick tw15900120412870309639 for S.findZ by S.findZ_eq
name_quick tw2664551874359636763 for S.findZ by S.findZ_eq
name_quick tw8271852410755176070 for S.findZ by S.findZ_eq
name_quick tw10939839348159177617 for S.findZ by S.findZ_eq
name_quick tw4525517667737911620 for S.findZ by S.findZ_eq
name_quick tw13833065179229638619 for S.findZ by S.findZ_eq
name_quick tw16752143609539240740 for S.findZ by S.findZ_eq
name_quick tw724751600484774222 for S.findZ by S.findZ_eq
name_quick tw2422670821966735624 for S.findZ by S.findZ_eq
name_quick tw15919542637913265678 for S.findZ by S.findZ_eq
name_quick tw12393455550290869266 for S.findZ by S.findZ_eq
name_quick tw7483462131439158144 for S.findZ by S.findZ_eq
name_quick tw10996506086634736982 for S.findZ by S.findZ_eq
name_quick tw12659028871203227004 for S.findZ by S.findZ_eq
name_quick tw13615603153576403970 for S.findZ by S.findZ_eq
name_quick tw13252181687094117063 for S.findZ by S.findZ_eq
name_quick tw6004533443673955352 for S.findZ by S.findZ_eq
name_quick tw3560238982266916124 for S.findZ by S.findZ_eq
name_quick tw4224760802259116069 for S.findZ by S.findZ_eq
name_quick tw189603312586018693 for S.findZ by S.findZ_eq
name_quick tw9206804518496725263 for S.findZ by S.findZ_eq
name_quick tw9376109419431680627 for S.findZ by S.findZ_eq
name_quick tw17552769576498331613 for S.findZ by S.findZ_eq
name_quick tw16439824349840649037 for S.findZ by S.findZ_eq
name_quick tw7365555872484859036 for S.findZ by S.findZ_eq
name_quick tw667198328695590252 for S.findZ by S.findZ_eq
name_quick tw16296994325663420285 for S.findZ by S.findZ_eq
name_quick tw10042830170769951172 for S.findZ by S.findZ_eq
name_quick tw5032809538720368765 for S.findZ by S.findZ_eq
name_quick tw17111948838632640456 for S.findZ by S.findZ_eq
name_quick tw4980102563643897964 for S.findZ by S.findZ_eq
name_quick tw4039474712603431140 for S.findZ by S.findZ_eq
name_quick tw8595292554425487202 for S.findZ by S.findZ_eq
name_quick tw4071324889030633612 for S.findZ by S.findZ_eq
name_quick tw9564595351457756722 for S.findZ by S.findZ_eq
name_quick tw13016732220969518872 for S.findZ by S.findZ_eq
name_quick tw16349804527192203551 for S.findZ by S.findZ_eq
name_quick tw392140993173905013 for S.findZ by S.findZ_eq
name_quick tw5832503352825792928 for S.findZ by S.findZ_eq
name_quick tw13678640442995254988 for S.findZ by S.findZ_eq
name_quick tw4552823106982906706 for S.findZ by S.findZ_eq
name_quick tw7745614565497352828 for S.findZ by S.findZ_eq
name_quick tw16916688483869632129 for S.findZ by S.findZ_eq
name_quick tw13317431791736044220 for S.findZ by S.findZ_eq
name_quick tw5732905514179830355 for S.findZ by S.findZ_eq
name_quick tw18416463498863911781 for S.findZ by S.findZ_eq
name_quick tw17394056326795013819 for S.findZ by S.findZ_eq
name_quick tw5450187663091677483 for S.findZ by S.findZ_eq
name_quick tw1377046205977697930 for S.findZ by S.findZ_eq
name_quick tw951843321253372498 for S.findZ by S.findZ_eq
name_quick tw4658958612460137192 for S.findZ by S.findZ_eq
name_quick tw14333388528381170442 for S.findZ by S.findZ_eq
name_quick tw2283851925072248500 for S.findZ by S.findZ_eq
name_quick tw7269565832213808900 for S.findZ by S.findZ_eq
name_quick tw1333364371103165705 for S.findZ by S.findZ_eq
name_quick tw3131671291697673992 for S.findZ by S.findZ_eq
name_quick tw16817318245366136608 for S.findZ by S.findZ_eq
name_quick tw14223099787259518943 for S.findZ by S.findZ_eq
name_quick tw5978237884098788730 for S.findZ by S.findZ_eq
name_quick tw12945451867199242903 for S.findZ by S.findZ_eq
name_quick tw8703263022893421829 for S.findZ by S.findZ_eq
name_quick tw9011979029575296479 for S.findZ by S.findZ_eq
name_quick tw14834023430324568649 for S.findZ by S.findZ_eq
name_quick tw3105397867545767578 for S.findZ by S.findZ_eq
name_quick tw17100903815162463580 for S.findZ by S.findZ_eq
name_quick tw4527066259768149269 for S.findZ by S.findZ_eq
name_quick tw1503297043503765363 for S.findZ by S.findZ_eq
name_quick tw1702518465993881591 for S.findZ by S.findZ_eq
name_quick tw470574548607681690 for S.findZ by S.findZ_eq
name_quick tw17888162413812561239 for S.findZ by S.findZ_eq
name_quick tw18056578402003937789 for S.findZ by S.findZ_eq
name_quick tw14537914154153760125 for S.findZ by S.findZ_eq
name_quick tw3152983702415266003 for S.findZ by S.findZ_eq
name_quick tw9467589175468403638 for S.findZ by S.findZ_eq
name_quick tw13512673800721320934 for S.findZ by S.findZ_eq
name_quick tw17476080006546285661 for S.findZ by S.findZ_eq
name_quick tw725871291056497461 for S.findZ by S.findZ_eq
name_quick tw8430678208038309684 for S.findZ by S.findZ_eq
name_quick tw11767421526060770920 for S.findZ by S.findZ_eq
name_quick tw16189536214700107852 for S.findZ by S.findZ_eq
name_quick tw12233582284571471492 for S.findZ by S.findZ_eq
name_quick tw15560853006256673968 for S.findZ by S.findZ_eq
name_quick tw9676229304581654039 for S.findZ by S.findZ_eq
name_quick tw7802139600951554647 for S.findZ by S.findZ_eq
name_quick tw6550987210724342151 for S.findZ by S.findZ_eq
name_quick tw7401281599722004195 for S.findZ by S.findZ_eq
name_quick tw12177639751122801600 for S.findZ by S.findZ_eq
name_quick tw6122645084068987007 for S.findZ by S.findZ_eq
name_quick tw3442601649717412197 for S.findZ by S.findZ_eq
name_quick tw2736616831223182526 for S.findZ by S.findZ_eq
name_quick tw8224813933742928703 for S.findZ by S.findZ_eq
name_quick tw14896874001708588922 for S.findZ by S.findZ_eq
name_quick tw12647630874787467225 for S.findZ by S.findZ_eq
name_quick tw11838138170533393997 for S.findZ by S.findZ_eq
name_quick tw1763209079605825380 for S.findZ by S.findZ_eq
name_quick tw5200128776193632040 for S.findZ by S.findZ_eq
name_quick tw12821735335276811757 for S.findZ by S.findZ_eq
name_quick tw8719427161674164953 for S.findZ by S.findZ_eq
name_quick tw15195428891847259777 for S.findZ by S.findZ_eq
name_quick tw6148621092414575339 for S.findZ by S.findZ_eq
name_quick tw12022618010286034681 for S.findZ by S.findZ_eq
name_quick tw10470071008263537045 for S.findZ by S.findZ_eq
name_quick tw6144853644547557980 for S.findZ by S.findZ_eq
name_quick tw2193789692954389824 for S.findZ by S.findZ_eq
name_quick tw7585139358526817783 for S.findZ by S.findZ_eq
name_quick tw9458956999447867950 for S.findZ by S.findZ_eq
name_quick tw12182807814244774211 for S.findZ by S.findZ_eq
name_quick tw7286323032743288035 for S.findZ by S.findZ_eq
name_quick tw3436264866546951355 for S.findZ by S.findZ_eq
name_quick tw17026713947507217902 for S.findZ by S.findZ_eq
name_quick tw1749818173716722547 for S.findZ by S.findZ_eq
name_quick tw10323183001455561277 for S.findZ by S.findZ_eq
name_quick tw15034313371233782410 for S.findZ by S.findZ_eq
name_quick tw7469732015759309437 for S.findZ by S.findZ_eq
name_quick tw2711585505577850959 for S.findZ by S.findZ_eq
name_quick tw11306939235166856333 for S.findZ by S.findZ_eq
name_quick tw18260038339965228139 for S.findZ by S.findZ_eq
name_quick tw2460228577881660442 for S.findZ by S.findZ_eq
name_quick tw3264259588550801142 for S.findZ by S.findZ_eq
name_quick tw9151444980202551346 for S.findZ by S.findZ_eq
name_quick tw12945968074294007009 for S.findZ by S.findZ_eq
name_quick tw3386650904741475044 for S.findZ by S.findZ_eq
name_quick tw10706342367453228570 for S.findZ by S.findZ_eq
name_quick tw3470799630455053000 for S.findZ by S.findZ_eq
name_quick tw7650934615059315214 for S.findZ by S.findZ_eq
name_quick tw3093977132361051618 for S.findZ by S.findZ_eq
name_quick tw9979284746773624096 for S.findZ by S.findZ_eq
name_quick tw7250012664060256230 for S.findZ by S.findZ_eq
name_quick tw3424931102881643321 for S.findZ by S.findZ_eq
name_quick tw5697894365363955025 for S.findZ by S.findZ_eq
name_quick tw325292655437039998 for S.findZ by S.findZ_eq
name_quick tw11445135464325071761 for S.findZ by S.findZ_eq
name_quick tw721709456127091705 for S.findZ by S.findZ_eq
name_quick tw2611137233208623240 for S.findZ by S.findZ_eq
name_quick tw10314498396905981064 for S.findZ by S.findZ_eq
name_quick tw17814930658547583709 for S.findZ by S.findZ_eq
name_quick tw18163708392712065173 for S.findZ by S.findZ_eq
name_quick tw13160144027095335755 for S.findZ by S.findZ_eq
name_quick tw17071476683966804577 for S.findZ by S.findZ_eq
name_quick tw8732485361984058174 for S.findZ by S.findZ_eq
name_quick tw10308316962582663543 for S.findZ by S.findZ_eq
name_quick tw5923252988546675246 for S.findZ by S.findZ_eq
name_quick tw7503421922109321716 for S.findZ by S.findZ_eq
name_quick tw17954736447514056666 for S.findZ by S.findZ_eq
name_quick tw4858009861420398278 for S.findZ by S.findZ_eq
name_quick tw17015423121036801654 for S.findZ by S.findZ_eq
name_quick tw3695515675974049574 for S.findZ by S.findZ_eq
name_quick tw7670514497116975361 for S.findZ by S.findZ_eq
name_quick tw3953757239420563355 for S.findZ by S.findZ_eq
name_quick tw13721567128424951087 for S.findZ by S.findZ_eq
name_quick tw1102190903223815498 for S.findZ by S.findZ_eq
name_quick tw6214688769961185500 for S.findZ by S.findZ_eq
name_quick tw13254397897704925713 for S.findZ by S.findZ_eq
name_quick tw2759451637364818457 for S.findZ by S.findZ_eq
name_quick tw1184552218554016812 for S.findZ by S.findZ_eq
name_quick tw14326252917377295143 for S.findZ by S.findZ_eq
name_quick tw4775785305629353868 for S.findZ by S.findZ_eq
name_quick tw5902227825499142635 for S.findZ by S.findZ_eq
name_quick tw7276740287692124622 for S.findZ by S.findZ_eq
name_quick tw9787396351842916947 for S.findZ by S.findZ_eq
name_quick tw12898947447245864913 for S.findZ by S.findZ_eq
name_quick tw11817470609975844035 for S.findZ by S.findZ_eq
name_quick tw5925582254088234700 for S.findZ by S.findZ_eq
name_quick tw383695940523520267 for S.findZ by S.findZ_eq
name_quick tw1638017585896720355 for S.findZ by S.findZ_eq
name_quick tw8620020772036689432 for S.findZ by S.findZ_eq
name_quick tw704327219915372674 for S.findZ by S.findZ_eq
name_quick tw607167704815816724 for S.findZ by S.findZ_eq
name_quick tw16406328271908756883 for S.findZ by S.findZ_eq
name_quick tw12809422525583811893 for S.findZ by S.findZ_eq
name_quick tw18126140380344562322 for S.findZ by S.findZ_eq
name_quick tw10500077913531017323 for S.findZ by S.findZ_eq
name_quick tw8579058602437062094 for S.findZ by S.findZ_eq
name_quick tw5770868932273138760 for S.findZ by S.findZ_eq
name_quick tw15066959818950650227 for S.findZ by S.findZ_eq
name_quick tw9285146279643344392 for S.findZ by S.findZ_eq
name_quick tw11964429278604863157 for S.findZ by S.findZ_eq
name_quick tw3976722010076183465 for S.findZ by S.findZ_eq
name_quick tw1706496860858754268 for S.findZ by S.findZ_eq
name_quick tw9315938663221665524 for S.findZ by S.findZ_eq
name_quick tw15215539614974913122 for S.findZ by S.findZ_eq
name_quick tw1258299570235058372 for S.findZ by S.findZ_eq
name_quick tw2408619945344806742 for S.findZ by S.findZ_eq
name_quick tw13642483538084851733 for S.findZ by S.findZ_eq
name_quick tw6125931036764729998 for S.findZ by S.findZ_eq
name_quick tw8693227569615203950 for S.findZ by S.findZ_eq
name_quick tw10227693086864044499 for S.findZ by S.findZ_eq
name_quick tw11985326045990495214 for S.findZ by S.findZ_eq
name_quick tw17164873540382356111 for S.findZ by S.findZ_eq
name_quick tw12329403913580668285 for S.findZ by S.findZ_eq
name_quick tw7082770336023389322 for S.findZ by S.findZ_eq
name_quick tw17993156020533580102 for S.findZ by S.findZ_eq
name_quick tw6654550962395885724 for S.findZ by S.findZ_eq
name_quick tw6587116730350146372 for S.findZ by S.findZ_eq
name_quick tw4966893808263662355 for S.findZ by S.findZ_eq
name_quick tw11994158751524154303 for S.findZ by S.findZ_eq
name_quick tw11825729669827539873 for S.findZ by S.findZ_eq
name_quick tw15542691292777871779 for S.findZ by S.findZ_eq
name_quick tw14108194823987119177 for S.findZ by S.findZ_eq
name_quick tw11270796479367742343 for S.findZ by S.findZ_eq
name_quick tw14311459727803291754 for S.findZ by S.findZ_eq
name_quick tw183835017167291270 for S.findZ by S.findZ_eq
name_quick tw9219426015542480343 for S.findZ by S.findZ_eq
name_quick tw12981051755390344553 for S.findZ by S.findZ_eq
name_quick tw8727135674562949291 for S.findZ by S.findZ_eq
name_quick tw13987355940573415152 for S.findZ by S.findZ_eq
name_quick tw6135381517318000843 for S.findZ by S.findZ_eq
name_quick tw7619357645376055252 for S.findZ by S.findZ_eq
name_quick tw5976474108018559520 for S.findZ by S.findZ_eq
name_quick tw14386900418201647394 for S.findZ by S.findZ_eq
name_quick tw14320153404804151612 for S.findZ by S.findZ_eq
name_quick tw6363645014702824404 for S.findZ by S.findZ_eq
name_quick tw5345256250457102556 for S.findZ by S.findZ_eq
name_quick tw6662432510661729299 for S.findZ by S.findZ_eq
name_quick tw8119918657739134586 for S.findZ by S.findZ_eq
name_quick tw6817277305950994716 for S.findZ by S.findZ_eq
name_quick tw7323676302269181137 for S.findZ by S.findZ_eq
name_quick tw7695134704397734373 for S.findZ by S.findZ_eq
name_quick tw9411525586021648077 for S.findZ by S.findZ_eq
name_quick tw17988542015724977305 for S.findZ by S.findZ_eq
name_quick tw3988873048329089060 for S.findZ by S.findZ_eq
name_quick tw3765832534156293488 for S.findZ by S.findZ_eq
name_quick tw12750523984047038209 for S.findZ by S.findZ_eq
name_quick tw14391268981414578426 for S.findZ by S.findZ_eq
name_quick tw14837249469386935497 for S.findZ by S.findZ_eq
name_quick tw389472881494512206 for S.findZ by S.findZ_eq
name_quick tw8011074875491098849 for S.findZ by S.findZ_eq
name_quick tw10205541121877940668 for S.findZ by S.findZ_eq
name_quick tw11707371222683016368 for S.findZ by S.findZ_eq
name_quick tw12635813782599140982 for S.findZ by S.findZ_eq
name_quick tw10015664371746657536 for S.findZ by S.findZ_eq
name_quick tw9674257727999782656 for S.findZ by S.findZ_eq
name_quick tw17730448691065144110 for S.findZ by S.findZ_eq
name_quick tw16339471991904476338 for S.findZ by S.findZ_eq
name_quick tw1402947280878808549 for S.findZ by S.findZ_eq
name_quick tw12172078356533094185 for S.findZ by S.findZ_eq
name_quick tw10670733350059645105 for S.findZ by S.findZ_eq
name_quick tw10528696920762540405 for S.findZ by S.findZ_eq
name_quick tw18350330562280901221 for S.findZ by S.findZ_eq
name_quick tw14386061602966655976 for S.findZ by S.findZ_eq
name_quick tw16531745337717519161 for S.findZ by S.findZ_eq
name_quick tw8860024209350480642 for S.findZ by S.findZ_eq
name_quick tw17672482021469178181 for S.findZ by S.findZ_eq
name_quick tw2862820112641550484 for S.findZ by S.findZ_eq
name_quick tw17000458434675057986 for S.findZ by S.findZ_eq
name_quick tw7232422423428716515 for S.findZ by S.findZ_eq
name_quick tw9862997608875712007 for S.findZ by S.findZ_eq
name_quick tw15766043655864335149 for S.findZ by S.findZ_eq
name_quick tw13789449189825218787 for S.findZ by S.findZ_eq
name_quick tw6711915476519705758 for S.findZ by S.findZ_eq
name_quick tw4681523508651956083 for S.findZ by S.findZ_eq
name_quick tw11729385059970357855 for S.findZ by S.findZ_eq
name_quick tw5882768191206486792 for S.findZ by S.findZ_eq
name_quick tw7496433998918960881 for S.findZ by S.findZ_eq
name_quick tw9931943479562821362 for S.findZ by S.findZ_eq
name_quick tw9594665118957945026 for S.findZ by S.findZ_eq
name_quick tw5565278806992967083 for S.findZ by S.findZ_eq
name_quick tw5396446701170858492 for S.findZ by S.findZ_eq
name_quick tw2902314222560053993 for S.findZ by S.findZ_eq
name_quick tw6019396324639902685 for S.findZ by S.findZ_eq
name_quick tw14973007898608030118 for S.findZ by S.findZ_eq
name_quick tw6059929106960060952 for S.findZ by S.findZ_eq
name_quick tw7299303143086499733 for S.findZ by S.findZ_eq
name_quick tw3118938333895590913 for S.findZ by S.findZ_eq
name_quick tw14210447440969649564 for S.findZ by S.findZ_eq
name_quick tw17018628822417861297 for S.findZ by S.findZ_eq
name_quick tw13215998728584607739 for S.findZ by S.findZ_eq
name_quick tw10887116778572429059 for S.findZ by S.findZ_eq
name_quick tw43969757491396457 for S.findZ by S.findZ_eq
name_quick tw11161088081135249708 for S.findZ by S.findZ_eq
name_quick tw6434265647005701932 for S.findZ by S.findZ_eq
name_quick tw4904739604578439355 for S.findZ by S.findZ_eq
name_quick tw11863081143760314161 for S.findZ by S.findZ_eq
name_quick tw17057272898397164401 for S.findZ by S.findZ_eq
name_quick tw3778451253796500701 for S.findZ by S.findZ_eq
name_quick tw6448080314894763839 for S.findZ by S.findZ_eq
name_quick tw912392155897948271 for S.findZ by S.findZ_eq
name_quick tw3362959441861295915 for S.findZ by S.findZ_eq
name_quick tw15263041282635125899 for S.findZ by S.findZ_eq
name_quick tw136631920214876835 for S.findZ by S.findZ_eq
name_quick tw12290603225136948437 for S.findZ by S.findZ_eq
name_quick tw15423634916342008072 for S.findZ by S.findZ_eq
name_quick tw2627984346626558326 for S.findZ by S.findZ_eq
name_quick tw4302124980754421698 for S.findZ by S.findZ_eq
name_quick tw8206430501311747189 for S.findZ by S.findZ_eq
name_quick tw8753696776887207221 for S.findZ by S.findZ_eq
name_quick tw16241802466949684156 for S.findZ by S.findZ_eq
name_quick tw1204117194425446250 for S.findZ by S.findZ_eq
name_quick tw8603108125212654177 for S.findZ by S.findZ_eq
name_quick tw4797165386629745026 for S.findZ by S.findZ_eq
name_quick tw15480198773659482676 for S.findZ by S.findZ_eq
name_quick tw1291980286583624508 for S.findZ by S.findZ_eq
name_quick tw13526986893379352335 for S.findZ by S.findZ_eq
name_quick tw13607416678640721797 for S.findZ by S.findZ_eq
name_quick tw3891137856419664920 for S.findZ by S.findZ_eq
name_quick tw5721027456603625697 for S.findZ by S.findZ_eq
name_quick tw11588390666370768167 for S.findZ by S.findZ_eq
name_quick tw4933834842325187142 for S.findZ by S.findZ_eq
name_quick tw10938465397075749097 for S.findZ by S.findZ_eq
name_quick tw4558998842232669794 for S.findZ by S.findZ_eq
name_quick tw9951705424602377420 for S.findZ by S.findZ_eq
name_quick tw13900631225919944168 for S.findZ by S.findZ_eq
name_quick tw3764465048917985505 for S.findZ by S.findZ_eq
name_quick tw11566699232636054958 for S.findZ by S.findZ_eq
name_quick tw7275051467321613617 for S.findZ by S.findZ_eq
name_quick tw12268644228514654432 for S.findZ by S.findZ_eq
name_quick tw151948405760981731 for S.findZ by S.findZ_eq
name_quick tw10007627690174824804 for S.findZ by S.findZ_eq
name_quick tw6679490504615227074 for S.findZ by S.findZ_eq
name_quick tw5268983451555188008 for S.findZ by S.findZ_eq
name_quick tw17730428716208468724 for S.findZ by S.findZ_eq
name_quick tw1092655722715705105 for S.findZ by S.findZ_eq
name_quick tw11420187438672877268 for S.findZ by S.findZ_eq
name_quick tw6245536207120538393 for S.findZ by S.findZ_eq
name_quick tw3619232141914619222 for S.findZ by S.findZ_eq
name_quick tw15168306246750427876 for S.findZ by S.findZ_eq
name_quick tw17964007177503468958 for S.findZ by S.findZ_eq
name_quick tw6589095468515690095 for S.findZ by S.findZ_eq
name_quick tw3282434896037501709 for S.findZ by S.findZ_eq
name_quick tw16593013826814733010 for S.findZ by S.findZ_eq
name_quick tw16018607276475445134 for S.findZ by S.findZ_eq
name_quick tw16432479971616331241 for S.findZ by S.findZ_eq
name_quick tw1414301608579184545 for S.findZ by S.findZ_eq
name_quick tw11636919720809706868 for S.findZ by S.findZ_eq
name_quick tw18220123701641295943 for S.findZ by S.findZ_eq
name_quick tw2039238271031011813 for S.findZ by S.findZ_eq
name_quick tw8424611434330503625 for S.findZ by S.findZ_eq
name_quick tw12835720964997663042 for S.findZ by S.findZ_eq
name_quick tw17517737089405305841 for S.findZ by S.findZ_eq
name_quick tw15560500314895047343 for S.findZ by S.findZ_eq
name_quick tw10379131730601215995 for S.findZ by S.findZ_eq
name_quick tw5758256569797452207 for S.findZ by S.findZ_eq
name_quick tw973662469405803806 for S.findZ by S.findZ_eq
name_quick tw17352973434858128600 for S.findZ by S.findZ_eq
name_quick tw1829445100760108279 for S.findZ by S.findZ_eq
name_quick tw3766158894648301139 for S.findZ by S.findZ_eq
name_quick tw757081541053455785 for S.findZ by S.findZ_eq
name_quick tw16413264400604254196 for S.findZ by S.findZ_eq
name_quick tw2948108419219029167 for S.findZ by S.findZ_eq
name_quick tw7344376507651311505 for S.findZ by S.findZ_eq
name_quick tw9787463984185863102 for S.findZ by S.findZ_eq
name_quick tw10010936943081839664 for S.findZ by S.findZ_eq
name_quick tw14186486079044719983 for S.findZ by S.findZ_eq
name_quick tw11130039905162102590 for S.findZ by S.findZ_eq
name_quick tw18101931140130867144 for S.findZ by S.findZ_eq
name_quick tw10073347824450446311 for S.findZ by S.findZ_eq
name_quick tw16643379632663270332 for S.findZ by S.findZ_eq
name_quick tw8708707556590381134 for S.findZ by S.findZ_eq
name_quick tw7299951869573292228 for S.findZ by S.findZ_eq
name_quick tw503676674663206642 for S.findZ by S.findZ_eq
name_quick tw4275521005467322725 for S.findZ by S.findZ_eq
name_quick tw3577408171920636059 for S.findZ by S.findZ_eq
name_quick tw17842620306162639686 for S.findZ by S.findZ_eq
name_quick tw16180582048198870337 for S.findZ by S.findZ_eq
name_quick tw15806122291839087668 for S.findZ by S.findZ_eq
name_quick tw14126943448341045398 for S.findZ by S.findZ_eq
name_quick tw3820604794100220378 for S.findZ by S.findZ_eq
name_quick tw10948738476641704880 for S.findZ by S.findZ_eq
name_quick tw17975652961387846372 for S.findZ by S.findZ_eq
name_quick tw8032284361305108907 for S.findZ by S.findZ_eq
name_quick tw15278061642289888581 for S.findZ by S.findZ_eq
name_quick tw3698559305507148144 for S.findZ by S.findZ_eq
name_quick tw1055568401681811165 for S.findZ by S.findZ_eq
name_quick tw11853533878840232495 for S.findZ by S.findZ_eq
name_quick tw12825359941727978080 for S.findZ by S.findZ_eq
name_quick tw11166942722945506595 for S.findZ by S.findZ_eq
name_quick tw1370275717833778536 for S.findZ by S.findZ_eq
name_quick tw5068434257544371817 for S.findZ by S.findZ_eq
name_quick tw12660628722211587041 for S.findZ by S.findZ_eq
name_quick tw4319705520415482375 for S.findZ by S.findZ_eq
name_quick tw16947794391021106201 for S.findZ by S.findZ_eq
name_quick tw4978915544186085027 for S.findZ by S.findZ_eq
name_quick tw4292500188555128830 for S.findZ by S.findZ_eq
name_quick tw5823794197072137003 for S.findZ by S.findZ_eq
name_quick tw17069979004554194336 for S.findZ by S.findZ_eq
name_quick tw15902184279288820625 for S.findZ by S.findZ_eq
name_quick tw13912434898499826684 for S.findZ by S.findZ_eq
name_quick tw7499937903120025604 for S.findZ by S.findZ_eq
name_quick tw5076957145309523181 for S.findZ by S.findZ_eq
name_quick tw14778209649434054790 for S.findZ by S.findZ_eq
name_quick tw14714103240675001986 for S.findZ by S.findZ_eq
name_quick tw7581816359482902497 for S.findZ by S.findZ_eq
name_quick tw7397068168572129948 for S.findZ by S.findZ_eq
name_quick tw11333186260410459676 for S.findZ by S.findZ_eq
name_quick tw7198390536060210744 for S.findZ by S.findZ_eq
name_quick tw4075660801711882420 for S.findZ by S.findZ_eq
name_quick tw11519604305632133818 for S.findZ by S.findZ_eq
name_quick tw6426273055680023932 for S.findZ by S.findZ_eq
name_quick tw5189142188285759775 for S.findZ by S.findZ_eq
name_quick tw7094674258960923220 for S.findZ by S.findZ_eq
name_quick tw17803129079492736432 for S.findZ by S.findZ_eq
name_quick tw8796240567053077481 for S.findZ by S.findZ_eq
name_quick tw17280976486791472633 for S.findZ by S.findZ_eq
name_quick tw14323765505736481980 for S.findZ by S.findZ_eq
name_quick tw9300948228871686676 for S.findZ by S.findZ_eq
name_quick tw5349121933718820234 for S.findZ by S.findZ_eq
name_quick tw9136488742655976645 for S.findZ by S.findZ_eq
name_quick tw15980859228951719591 for S.findZ by S.findZ_eq
name_quick tw15773981995205291829 for S.findZ by S.findZ_eq
name_quick tw6909570525239066004 for S.findZ by S.findZ_eq
name_quick tw6722154040420286063 for S.findZ by S.findZ_eq
name_quick tw9504726810853072989 for S.findZ by S.findZ_eq
name_quick tw4936483359421988267 for S.findZ by S.findZ_eq
name_quick tw9763268239775435451 for S.findZ by S.findZ_eq
name_quick tw6580340599500149305 for S.findZ by S.findZ_eq
name_quick tw11462045893675790159 for S.findZ by S.findZ_eq
name_quick tw6380047634161181297 for S.findZ by S.findZ_eq
name_quick tw16417370028952169744 for S.findZ by S.findZ_eq
name_quick tw11543547407058413889 for S.findZ by S.findZ_eq
name_quick tw13925586954763233925 for S.findZ by S.findZ_eq
name_quick tw4549333791460862111 for S.findZ by S.findZ_eq
name_quick tw2401699919119007470 for S.findZ by S.findZ_eq
name_quick tw14433975572909055671 for S.findZ by S.findZ_eq
name_quick tw14214133299417103183 for S.findZ by S.findZ_eq
name_quick tw4090926877573551719 for S.findZ by S.findZ_eq
name_quick tw12813236842856870187 for S.findZ by S.findZ_eq
name_quick tw1156252341971683116 for S.findZ by S.findZ_eq
name_quick tw16942194440817826258 for S.findZ by S.findZ_eq
name_quick tw7140130562030077042 for S.findZ by S.findZ_eq
name_quick tw11108263761283441063 for S.findZ by S.findZ_eq
name_quick tw9396933662098498411 for S.findZ by S.findZ_eq
name_quick tw11625766737575182897 for S.findZ by S.findZ_eq
name_quick tw716658179208862652 for S.findZ by S.findZ_eq
name_quick tw1401972060568974870 for S.findZ by S.findZ_eq
name_quick tw12224578244612797663 for S.findZ by S.findZ_eq
name_quick tw3865406201487662470 for S.findZ by S.findZ_eq
name_quick tw9281714027785469542 for S.findZ by S.findZ_eq
name_quick tw15663404670287596823 for S.findZ by S.findZ_eq
name_quick tw17300597898927385350 for S.findZ by S.findZ_eq
name_quick tw9575731206691268911 for S.findZ by S.findZ_eq
name_quick tw8017206721242287953 for S.findZ by S.findZ_eq
name_quick tw3325841961599345399 for S.findZ by S.findZ_eq
name_quick tw9236875199018929784 for S.findZ by S.findZ_eq
name_quick tw1620339239838986703 for S.findZ by S.findZ_eq
name_quick tw14553827428707814869 for S.findZ by S.findZ_eq
name_quick tw558745408833754511 for S.findZ by S.findZ_eq
name_quick tw7581352650102555174 for S.findZ by S.findZ_eq
name_quick tw17532718790514356516 for S.findZ by S.findZ_eq
name_quick tw15323854079317868165 for S.findZ by S.findZ_eq
name_quick tw13141144453892091621 for S.findZ by S.findZ_eq
name_quick tw9948023125614773506 for S.findZ by S.findZ_eq
name_quick tw11682084944484805031 for S.findZ by S.findZ_eq
name_quick tw764782834095389478 for S.findZ by S.findZ_eq
name_quick tw11796506867022685745 for S.findZ by S.findZ_eq
name_quick tw16979880578912567463 for S.findZ by S.findZ_eq
name_quick tw7783732958741208154 for S.findZ by S.findZ_eq
name_quick tw12392613427281201732 for S.findZ by S.findZ_eq
name_quick tw10352308551163946355 for S.findZ by S.findZ_eq
name_quick tw10029231156530900338 for S.findZ by S.findZ_eq
name_quick tw4879560196417449868 for S.findZ by S.findZ_eq
name_quick tw8047484207015712433 for S.findZ by S.findZ_eq
name_quick tw17497748084772794779 for S.findZ by S.findZ_eq
name_quick tw15376083050721069600 for S.findZ by S.findZ_eq
name_quick tw13809362725867891129 for S.findZ by S.findZ_eq
name_quick tw13871001218405608335 for S.findZ by S.findZ_eq
name_quick tw13251646731365433171 for S.findZ by S.findZ_eq
name_quick tw6967401301877209104 for S.findZ by S.findZ_eq
name_quick tw2951486255847992690 for S.findZ by S.findZ_eq
name_quick tw12679591844961189642 for S.findZ by S.findZ_eq
name_quick tw8400853705098224536 for S.findZ by S.findZ_eq
name_quick tw11036193050239951465 for S.findZ by S.findZ_eq
name_quick tw11277413387252134812 for S.findZ by S.findZ_eq
name_quick tw1869930749605803152 for S.findZ by S.findZ_eq
name_quick tw4679858250743294509 for S.findZ by S.findZ_eq
name_quick tw9908251947323293946 for S.findZ by S.findZ_eq
name_quick tw505943868828395459 for S.findZ by S.findZ_eq
name_quick tw9407582987413476825 for S.findZ by S.findZ_eq
name_quick tw17520869792638436183 for S.findZ by S.findZ_eq
name_quick tw16644606511662114574 for S.findZ by S.findZ_eq
name_quick tw14420389602138693270 for S.findZ by S.findZ_eq
name_quick tw6012508502120743258 for S.findZ by S.findZ_eq
name_quick tw6213141578215901147 for S.findZ by S.findZ_eq
name_quick tw12866136484021002089 for S.findZ by S.findZ_eq
name_quick tw5111356299099525756 for S.findZ by S.findZ_eq
name_quick tw11939915149646268982 for S.findZ by S.findZ_eq
name_quick tw11013792430000457035 for S.findZ by S.findZ_eq
name_quick tw5518745428033880147 for S.findZ by S.findZ_eq
name_quick tw18011898689540126615 for S.findZ by S.findZ_eq
name_quick tw4748654258956052638 for S.findZ by S.findZ_eq
name_quick tw6683783046931543321 for S.findZ by S.findZ_eq
name_quick tw10057510723706494237 for S.findZ by S.findZ_eq
name_quick tw11452132507678324671 for S.findZ by S.findZ_eq
name_quick tw18123110421147349612 for S.findZ by S.findZ_eq
name_quick tw16223305294053301992 for S.findZ by S.findZ_eq
name_quick tw14023627001141898710 for S.findZ by S.findZ_eq
name_quick tw8376441433122354887 for S.findZ by S.findZ_eq
name_quick tw18350638575300117064 for S.findZ by S.findZ_eq
name_quick tw16942504070071679284 for S.findZ by S.findZ_eq
name_quick tw14544052848187043789 for S.findZ by S.findZ_eq
name_quick tw16366562015402752707 for S.findZ by S.findZ_eq
name_quick tw12450158673883907302 for S.findZ by S.findZ_eq
name_quick tw9305782018832362445 for S.findZ by S.findZ_eq
name_quick tw387338674003428930 for S.findZ by S.findZ_eq
name_quick tw1772237422875290029 for S.findZ by S.findZ_eq
name_quick tw16049961110935095269 for S.findZ by S.findZ_eq
name_quick tw9529234661008812162 for S.findZ by S.findZ_eq
name_quick tw10508251915553800215 for S.findZ by S.findZ_eq
name_quick tw17341736924252097559 for S.findZ by S.findZ_eq
name_quick tw117213463901210413 for S.findZ by S.findZ_eq
name_quick tw15742981410569661332 for S.findZ by S.findZ_eq
name_quick tw14530364306720264245 for S.findZ by S.findZ_eq
name_quick tw9800571698397750058 for S.findZ by S.findZ_eq
name_quick tw10424941004445345732 for S.findZ by S.findZ_eq
set_option maxRecDepth 100000 in
set_option maxHeartbeats 8000000 in
open_top hd for PySem.Challenge.rw_uf030004_10
end Mine
open PySem PySem.W PyProof.Rows
set_option maxRecDepth 100000
set_option maxHeartbeats 4000000
namespace Mine
abbrev a_is_whole : Nat := 149
abbrev a_step : Nat := 156
abbrev a_is_name : Nat := 294
abbrev a_law_cell_at : Nat := 420
abbrev a_law_name_by : Nat := 427
abbrev a_law_rows_by : Nat := 434
abbrev a_law_ready : Nat := 441
abbrev a_law_above : Nat := 448
abbrev a_law_stirred : Nat := 455
abbrev a_law_dealt : Nat := 462
abbrev a_law_refusal : Nat := 469
abbrev a_law_moved : Nat := 476
abbrev a_law_told : Nat := 483
abbrev a_law_all_ready : Nat := 490
abbrev a_law_good : Nat := 497
abbrev a_law_woken : Nat := 504
abbrev a_law_refused_here : Nat := 511
abbrev a_law_not_empty : Nat := 518
abbrev a_law_come_or_gone : Nat := 523
abbrev a_law_deed : Nat := 530
abbrev a_law : Nat := 535
abbrev a_ShareError : Nat := 31
abbrev a_BadShare : Nat := 44
abbrev a_BadName : Nat := 56
abbrev a_Twice : Nat := 68
abbrev a_NoTeam : Nat := 80
abbrev a_NoName : Nat := 92
abbrev a_NotHand : Nat := 104
abbrev a_NotEmpty : Nat := 116
abbrev a_BadCount : Nat := 128
abbrev a_NoDeed : Nat := 140
abbrev a_Sharer : Nat := 173
abbrev a_Wheel : Nat := 285
abbrev a_House : Nat := 409
abbrev m_Sharer_init : Nat := 170
abbrev m_Wheel_init : Nat := 191
abbrev m_Wheel_need : Nat := 198
abbrev m_Wheel_enter : Nat := 205
abbrev m_Wheel_leave : Nat := 212
abbrev m_Wheel_reshare : Nat := 219
abbrev m_Wheel_wake : Nat := 226
abbrev m_Wheel_rest : Nat := 233
abbrev m_Wheel_whose : Nat := 240
abbrev m_Wheel_turn : Nat := 247
abbrev m_Wheel_names : Nat := 254
abbrev m_Wheel_clock_of : Nat := 261
abbrev m_Wheel_share_of : Nat := 268
abbrev m_Wheel_is_ready : Nat := 275
abbrev m_Wheel_copied : Nat := 282
abbrev m_House_init : Nat := 308
abbrev m_House_is_team : Nat := 315
abbrev m_House_need : Nat := 322
abbrev m_House_need_hand : Nat := 329
abbrev m_House_stand : Nat := 336
abbrev m_House_team : Nat := 343
abbrev m_House_hand : Nat := 350
abbrev m_House_leave : Nat := 357
abbrev m_House_reshare : Nat := 364
abbrev m_House_wake : Nat := 371
abbrev m_House_rest : Nat := 378
abbrev m_House_deal : Nat := 385
abbrev m_House_copied : Nat := 392
abbrev m_House_wheel_of : Nat := 406
noncomputable def tab : Tab where
 glob := [(("is_whole" : Str), .ref a_is_whole), (("step" : Str), .ref a_step), (("is_name" : Str), .ref a_is_name), (("_law_cell_at" : Str), .ref a_law_cell_at), (("_law_name_by" : Str), .ref a_law_name_by), (("_law_rows_by" : Str), .ref a_law_rows_by), (("_law_ready" : Str), .ref a_law_ready), (("_law_above" : Str), .ref a_law_above), (("_law_stirred" : Str), .ref a_law_stirred), (("_law_dealt" : Str), .ref a_law_dealt), (("_law_refusal" : Str), .ref a_law_refusal), (("_law_moved" : Str), .ref a_law_moved), (("_law_told" : Str), .ref a_law_told), (("_law_all_ready" : Str), .ref a_law_all_ready), (("_law_good" : Str), .ref a_law_good), (("_law_woken" : Str), .ref a_law_woken), (("_law_refused_here" : Str), .ref a_law_refused_here), (("_law_not_empty" : Str), .ref a_law_not_empty), (("_law_come_or_gone" : Str), .ref a_law_come_or_gone), (("_law_deed" : Str), .ref a_law_deed), (("law" : Str), .ref a_law), (("ShareError" : Str), .ref a_ShareError), (("BadShare" : Str), .ref a_BadShare), (("BadName" : Str), .ref a_BadName), (("Twice" : Str), .ref a_Twice), (("NoTeam" : Str), .ref a_NoTeam), (("NoName" : Str), .ref a_NoName), (("NotHand" : Str), .ref a_NotHand), (("NotEmpty" : Str), .ref a_NotEmpty), (("BadCount" : Str), .ref a_BadCount), (("NoDeed" : Str), .ref a_NoDeed), (("Sharer" : Str), .ref a_Sharer), (("Wheel" : Str), .ref a_Wheel), (("House" : Str), .ref a_House), (("ROUND" : Str), .int 27720), (("MOST" : Str), .int 12), (("TOP" : Str), .str ""), (("LETTERS" : Str), .str "abcdefghijklmnopqrstuvwxyz"), (("MOST_LETTERS" : Str), .int 8), (("ValueError" : Str), .con (.type "ValueError")), (("all" : Str), .con (.builtin "all")), (("bool" : Str), .con (.type "bool")), (("int" : Str), .con (.type "int")), (("isinstance" : Str), .con (.builtin "isinstance")), (("len" : Str), .con (.builtin "len")), (("list" : Str), .con (.type "list")), (("max" : Str), .con (.builtin "max")), (("range" : Str), .con (.type "range")), (("str" : Str), .con (.type "str"))]
 meth := [((a_Sharer, ("__init__" : Str)), m_Sharer_init), ((a_Wheel, ("__init__" : Str)), m_Wheel_init), ((a_Wheel, ("need" : Str)), m_Wheel_need), ((a_Wheel, ("enter" : Str)), m_Wheel_enter), ((a_Wheel, ("leave" : Str)), m_Wheel_leave), ((a_Wheel, ("reshare" : Str)), m_Wheel_reshare), ((a_Wheel, ("wake" : Str)), m_Wheel_wake), ((a_Wheel, ("rest" : Str)), m_Wheel_rest), ((a_Wheel, ("whose" : Str)), m_Wheel_whose), ((a_Wheel, ("turn" : Str)), m_Wheel_turn), ((a_Wheel, ("names" : Str)), m_Wheel_names), ((a_Wheel, ("clock_of" : Str)), m_Wheel_clock_of), ((a_Wheel, ("share_of" : Str)), m_Wheel_share_of), ((a_Wheel, ("is_ready" : Str)), m_Wheel_is_ready), ((a_Wheel, ("copied" : Str)), m_Wheel_copied), ((a_House, ("__init__" : Str)), m_House_init), ((a_House, ("is_team" : Str)), m_House_is_team), ((a_House, ("need" : Str)), m_House_need), ((a_House, ("need_hand" : Str)), m_House_need_hand), ((a_House, ("stand" : Str)), m_House_stand), ((a_House, ("team" : Str)), m_House_team), ((a_House, ("hand" : Str)), m_House_hand), ((a_House, ("leave" : Str)), m_House_leave), ((a_House, ("reshare" : Str)), m_House_reshare), ((a_House, ("wake" : Str)), m_House_wake), ((a_House, ("rest" : Str)), m_House_rest), ((a_House, ("deal" : Str)), m_House_deal), ((a_House, ("copied" : Str)), m_House_copied), ((a_House, ("wheel_of" : Str)), m_House_wheel_of)]
 fld := [(a_Sharer, ("share" : Str)), (a_Sharer, ("clock" : Str)), (a_Sharer, ("ready" : Str)), (a_Wheel, ("past" : Str)), (a_Wheel, ("sharers" : Str)), (a_House, ("wheels" : Str)), (a_House, ("above" : Str))]
 init := [(a_Sharer, m_Sharer_init), (a_Wheel, m_Wheel_init), (a_House, m_House_init)]
 fns := [a_is_whole, a_step, a_is_name, a_law_cell_at, a_law_name_by, a_law_rows_by, a_law_ready, a_law_above, a_law_stirred, a_law_dealt, a_law_refusal, a_law_moved, a_law_told, a_law_all_ready, a_law_good, a_law_woken, a_law_refused_here, a_law_not_empty, a_law_come_or_gone, a_law_deed, a_law]
noncomputable def cx (w : World) (mean : ExcName -> Option Value) (mg mb : Str -> Option Value) : Cx := tab.cx PySem.Challenge.rw_uf030004_10.row.prog w (hd.heap_39 w.params) hd.view_39 (looseW hd.view_39 []) mean mg mb
theorem cx_ok (w : World) (mean : ExcName -> Option Value) (mg mb : Str -> Option Value) : CxOk (cx w mean mg mb) := Tab.ok
 (all_cons (globRef (by kernel_rfl) (by kernel_rfl)) (all_cons (globRef (by kernel_rfl) (by kernel_rfl)) (all_cons (globRef (by kernel_rfl) (by kernel_rfl)) (all_cons (globRef (by kernel_rfl) (by kernel_rfl)) (all_cons (globRef (by kernel_rfl) (by kernel_rfl)) (all_cons (globRef (by kernel_rfl) (by kernel_rfl)) (all_cons (globRef (by kernel_rfl) (by kernel_rfl)) (all_cons (globRef (by kernel_rfl) (by kernel_rfl)) (all_cons (globRef (by kernel_rfl) (by kernel_rfl)) (all_cons (globRef (by kernel_rfl) (by kernel_rfl)) (all_cons (globRef (by kernel_rfl) (by kernel_rfl)) (all_cons (globRef (by kernel_rfl) (by kernel_rfl)) (all_cons (globRef (by kernel_rfl) (by kernel_rfl)) (all_cons (globRef (by kernel_rfl) (by kernel_rfl)) (all_cons (globRef (by kernel_rfl) (by kernel_rfl)) (all_cons (globRef (by kernel_rfl) (by kernel_rfl)) (all_cons (globRef (by kernel_rfl) (by kernel_rfl)) (all_cons (globRef (by kernel_rfl) (by kernel_rfl)) (all_cons (globRef (by kernel_rfl) (by kernel_rfl)) (all_cons (globRef (by kernel_rfl) (by kernel_rfl)) (all_cons (globRef (by kernel_rfl) (by kernel_rfl)) (all_cons (globRef (by kernel_rfl) (by kernel_rfl)) (all_cons (globRef (by kernel_rfl) (by kernel_rfl)) (all_cons (globRef (by kernel_rfl) (by kernel_rfl)) (all_cons (globRef (by kernel_rfl) (by kernel_rfl)) (all_cons (globRef (by kernel_rfl) (by kernel_rfl)) (all_cons (globRef (by kernel_rfl) (by kernel_rfl)) (all_cons (globRef (by kernel_rfl) (by kernel_rfl)) (all_cons (globRef (by kernel_rfl) (by kernel_rfl)) (all_cons (globRef (by kernel_rfl) (by kernel_rfl)) (all_cons (globRef (by kernel_rfl) (by kernel_rfl)) (all_cons (globRef (by kernel_rfl) (by kernel_rfl)) (all_cons (globRef (by kernel_rfl) (by kernel_rfl)) (all_cons (globRef (by kernel_rfl) (by kernel_rfl)) (all_cons (globInt (t := _) (by kernel_rfl) (by rfl)) (all_cons (globInt (t := _) (by kernel_rfl) (by rfl)) (all_cons (globStr (t := _) (by kernel_rfl) (by rfl)) (all_cons (globStr (t := _) (by kernel_rfl) (by rfl)) (all_cons (globInt (t := _) (by kernel_rfl) (by rfl)) (all_cons (globBuiltin (by kernel_rfl) (by kernel_rfl) (by decide +kernel) (by kernel_rfl)) (all_cons (globBuiltin (by kernel_rfl) (by kernel_rfl) (by decide +kernel) (by kernel_rfl)) (all_cons (globBuiltin (by kernel_rfl) (by kernel_rfl) (by decide +kernel) (by kernel_rfl)) (all_cons (globBuiltin (by kernel_rfl) (by kernel_rfl) (by decide +kernel) (by kernel_rfl)) (all_cons (globBuiltin (by kernel_rfl) (by kernel_rfl) (by decide +kernel) (by kernel_rfl)) (all_cons (globBuiltin (by kernel_rfl) (by kernel_rfl) (by decide +kernel) (by kernel_rfl)) (all_cons (globBuiltin (by kernel_rfl) (by kernel_rfl) (by decide +kernel) (by kernel_rfl)) (all_cons (globBuiltin (by kernel_rfl) (by kernel_rfl) (by decide +kernel) (by kernel_rfl)) (all_cons (globBuiltin (by kernel_rfl) (by kernel_rfl) (by decide +kernel) (by kernel_rfl)) (all_cons (globBuiltin (by kernel_rfl) (by kernel_rfl) (by decide +kernel) (by kernel_rfl)) (all_nil))))))))))))))))))))))))))))))))))))))))))))))))))
 (all_cons ((iA3 (by kernel_rfl) (by kernel_rfl) (by kernel_rfl) (by kernel_rfl))) (all_cons ((iA3 (by kernel_rfl) (by kernel_rfl) (by kernel_rfl) (by kernel_rfl))) (all_cons ((iA3 (by kernel_rfl) (by kernel_rfl) (by kernel_rfl) (by kernel_rfl))) (all_cons ((iA3 (by kernel_rfl) (by kernel_rfl) (by kernel_rfl) (by kernel_rfl))) (all_cons ((iA3 (by kernel_rfl) (by kernel_rfl) (by kernel_rfl) (by kernel_rfl))) (all_cons ((iA3 (by kernel_rfl) (by kernel_rfl) (by kernel_rfl) (by kernel_rfl))) (all_cons ((iA3 (by kernel_rfl) (by kernel_rfl) (by kernel_rfl) (by kernel_rfl))) (all_cons ((iA3 (by kernel_rfl) (by kernel_rfl) (by kernel_rfl) (by kernel_rfl))) (all_cons ((iA3 (by kernel_rfl) (by kernel_rfl) (by kernel_rfl) (by kernel_rfl))) (all_cons ((iA3 (by kernel_rfl) (by kernel_rfl) (by kernel_rfl) (by kernel_rfl))) (all_cons ((iA3 (by kernel_rfl) (by kernel_rfl) (by kernel_rfl) (by kernel_rfl))) (all_cons ((iA3 (by kernel_rfl) (by kernel_rfl) (by kernel_rfl) (by kernel_rfl))) (all_cons ((iA3 (by kernel_rfl) (by kernel_rfl) (by kernel_rfl) (by kernel_rfl))) (all_cons ((iA3 (by kernel_rfl) (by kernel_rfl) (by kernel_rfl) (by kernel_rfl))) (all_cons ((iA3 (by kernel_rfl) (by kernel_rfl) (by kernel_rfl) (by kernel_rfl))) (all_cons ((iA3 (by kernel_rfl) (by kernel_rfl) (by kernel_rfl) (by kernel_rfl))) (all_cons ((iA3 (by kernel_rfl) (by kernel_rfl) (by kernel_rfl) (by kernel_rfl))) (all_cons ((iA3 (by kernel_rfl) (by kernel_rfl) (by kernel_rfl) (by kernel_rfl))) (all_cons ((iA3 (by kernel_rfl) (by kernel_rfl) (by kernel_rfl) (by kernel_rfl))) (all_cons ((iA3 (by kernel_rfl) (by kernel_rfl) (by kernel_rfl) (by kernel_rfl))) (all_cons ((iA3 (by kernel_rfl) (by kernel_rfl) (by kernel_rfl) (by kernel_rfl))) (all_cons ((iA3 (by kernel_rfl) (by kernel_rfl) (by kernel_rfl) (by kernel_rfl))) (all_cons ((iA3 (by kernel_rfl) (by kernel_rfl) (by kernel_rfl) (by kernel_rfl))) (all_cons ((iA3 (by kernel_rfl) (by kernel_rfl) (by kernel_rfl) (by kernel_rfl))) (all_cons ((iA3 (by kernel_rfl) (by kernel_rfl) (by kernel_rfl) (by kernel_rfl))) (all_cons ((iA3 (by kernel_rfl) (by kernel_rfl) (by kernel_rfl) (by kernel_rfl))) (all_cons ((iA3 (by kernel_rfl) (by kernel_rfl) (by kernel_rfl) (by kernel_rfl))) (all_cons ((iA3 (by kernel_rfl) (by kernel_rfl) (by kernel_rfl) (by kernel_rfl))) (all_cons ((iA3 (by kernel_rfl) (by kernel_rfl) (by kernel_rfl) (by kernel_rfl))) (all_nil))))))))))))))))))))))))))))))
 (all_cons ((iA5 (by kernel_rfl) (by kernel_rfl) (by kernel_rfl) (by kernel_rfl) (by kernel_rfl) (by kernel_rfl))) (all_cons ((iA5 (by kernel_rfl) (by kernel_rfl) (by kernel_rfl) (by kernel_rfl) (by kernel_rfl) (by kernel_rfl))) (all_cons ((iA5 (by kernel_rfl) (by kernel_rfl) (by kernel_rfl) (by kernel_rfl) (by kernel_rfl) (by kernel_rfl))) (all_cons ((iA5 (by kernel_rfl) (by kernel_rfl) (by kernel_rfl) (by kernel_rfl) (by kernel_rfl) (by kernel_rfl))) (all_cons ((iA5 (by kernel_rfl) (by kernel_rfl) (by kernel_rfl) (by kernel_rfl) (by kernel_rfl) (by kernel_rfl))) (all_cons ((iA5 (by kernel_rfl) (by kernel_rfl) (by kernel_rfl) (by kernel_rfl) (by kernel_rfl) (by kernel_rfl))) (all_cons ((iA5 (by kernel_rfl) (by kernel_rfl) (by kernel_rfl) (by kernel_rfl) (by kernel_rfl) (by kernel_rfl))) (all_nil))))))))
 (all_cons ((iA3 (by kernel_rfl) (by kernel_rfl) (by kernel_rfl) (by kernel_rfl))) (all_cons ((iA3 (by kernel_rfl) (by kernel_rfl) (by kernel_rfl) (by kernel_rfl))) (all_cons ((iA3 (by kernel_rfl) (by kernel_rfl) (by kernel_rfl) (by kernel_rfl))) (all_nil))))
 (all_cons (by kernel_rfl) (all_cons (by kernel_rfl) (all_cons (by kernel_rfl) (all_cons (by kernel_rfl) (all_cons (by kernel_rfl) (all_cons (by kernel_rfl) (all_cons (by kernel_rfl) (all_cons (by kernel_rfl) (all_cons (by kernel_rfl) (all_cons (by kernel_rfl) (all_cons (by kernel_rfl) (all_cons (by kernel_rfl) (all_cons (by kernel_rfl) (all_cons (by kernel_rfl) (all_cons (by kernel_rfl) (all_cons (by kernel_rfl) (all_cons (by kernel_rfl) (all_cons (by kernel_rfl) (all_cons (by kernel_rfl) (all_cons (by kernel_rfl) (all_cons (by kernel_rfl) (all_nil))))))))))))))))))))))
variable {w : World} {mean : ExcName -> Option Value} {mg mb : Str -> Option Value} {sc : Scope} {ρ : Lo} {σ : Hp} {X : EX} {Q : MV -> Hp -> Prop} {n : Nat}
theorem g_is_whole : (cx w mean mg mb).glob ("is_whole" : Str) = some (.ref a_is_whole) := by kernel_rfl
theorem g_step : (cx w mean mg mb).glob ("step" : Str) = some (.ref a_step) := by kernel_rfl
theorem g_is_name : (cx w mean mg mb).glob ("is_name" : Str) = some (.ref a_is_name) := by kernel_rfl
theorem g_law_cell_at : (cx w mean mg mb).glob ("_law_cell_at" : Str) = some (.ref a_law_cell_at) := by kernel_rfl
theorem g_law_name_by : (cx w mean mg mb).glob ("_law_name_by" : Str) = some (.ref a_law_name_by) := by kernel_rfl
theorem g_law_rows_by : (cx w mean mg mb).glob ("_law_rows_by" : Str) = some (.ref a_law_rows_by) := by kernel_rfl
theorem g_law_ready : (cx w mean mg mb).glob ("_law_ready" : Str) = some (.ref a_law_ready) := by kernel_rfl
theorem g_law_above : (cx w mean mg mb).glob ("_law_above" : Str) = some (.ref a_law_above) := by kernel_rfl
theorem g_law_stirred : (cx w mean mg mb).glob ("_law_stirred" : Str) = some (.ref a_law_stirred) := by kernel_rfl
theorem g_law_dealt : (cx w mean mg mb).glob ("_law_dealt" : Str) = some (.ref a_law_dealt) := by kernel_rfl
theorem g_law_refusal : (cx w mean mg mb).glob ("_law_refusal" : Str) = some (.ref a_law_refusal) := by kernel_rfl
theorem g_law_moved : (cx w mean mg mb).glob ("_law_moved" : Str) = some (.ref a_law_moved) := by kernel_rfl
theorem g_law_told : (cx w mean mg mb).glob ("_law_told" : Str) = some (.ref a_law_told) := by kernel_rfl
theorem g_law_all_ready : (cx w mean mg mb).glob ("_law_all_ready" : Str) = some (.ref a_law_all_ready) := by kernel_rfl
theorem g_law_good : (cx w mean mg mb).glob ("_law_good" : Str) = some (.ref a_law_good) := by kernel_rfl
theorem g_law_woken : (cx w mean mg mb).glob ("_law_woken" : Str) = some (.ref a_law_woken) := by kernel_rfl
theorem g_law_refused_here : (cx w mean mg mb).glob ("_law_refused_here" : Str) = some (.ref a_law_refused_here) := by kernel_rfl
theorem g_law_not_empty : (cx w mean mg mb).glob ("_law_not_empty" : Str) = some (.ref a_law_not_empty) := by kernel_rfl
theorem g_law_come_or_gone : (cx w mean mg mb).glob ("_law_come_or_gone" : Str) = some (.ref a_law_come_or_gone) := by kernel_rfl
theorem g_law_deed : (cx w mean mg mb).glob ("_law_deed" : Str) = some (.ref a_law_deed) := by kernel_rfl
theorem g_ShareError : (cx w mean mg mb).glob ("ShareError" : Str) = some (.ref a_ShareError) := by kernel_rfl
theorem g_BadShare : (cx w mean mg mb).glob ("BadShare" : Str) = some (.ref a_BadShare) := by kernel_rfl
theorem g_BadName : (cx w mean mg mb).glob ("BadName" : Str) = some (.ref a_BadName) := by kernel_rfl
theorem g_Twice : (cx w mean mg mb).glob ("Twice" : Str) = some (.ref a_Twice) := by kernel_rfl
theorem g_NoTeam : (cx w mean mg mb).glob ("NoTeam" : Str) = some (.ref a_NoTeam) := by kernel_rfl
theorem g_NoName : (cx w mean mg mb).glob ("NoName" : Str) = some (.ref a_NoName) := by kernel_rfl
theorem g_NotHand : (cx w mean mg mb).glob ("NotHand" : Str) = some (.ref a_NotHand) := by kernel_rfl
theorem g_NotEmpty : (cx w mean mg mb).glob ("NotEmpty" : Str) = some (.ref a_NotEmpty) := by kernel_rfl
theorem g_BadCount : (cx w mean mg mb).glob ("BadCount" : Str) = some (.ref a_BadCount) := by kernel_rfl
theorem g_NoDeed : (cx w mean mg mb).glob ("NoDeed" : Str) = some (.ref a_NoDeed) := by kernel_rfl
theorem g_Sharer : (cx w mean mg mb).glob ("Sharer" : Str) = some (.ref a_Sharer) := by kernel_rfl
theorem g_Wheel : (cx w mean mg mb).glob ("Wheel" : Str) = some (.ref a_Wheel) := by kernel_rfl
theorem g_House : (cx w mean mg mb).glob ("House" : Str) = some (.ref a_House) := by kernel_rfl
theorem g_ROUND : (cx w mean mg mb).glob ("ROUND" : Str) = some (.int 27720) := by kernel_rfl
theorem g_MOST : (cx w mean mg mb).glob ("MOST" : Str) = some (.int 12) := by kernel_rfl
theorem g_TOP : (cx w mean mg mb).glob ("TOP" : Str) = some (.str "") := by kernel_rfl
theorem g_LETTERS : (cx w mean mg mb).glob ("LETTERS" : Str) = some (.str "abcdefghijklmnopqrstuvwxyz") := by kernel_rfl
theorem g_MOST_LETTERS : (cx w mean mg mb).glob ("MOST_LETTERS" : Str) = some (.int 8) := by kernel_rfl
theorem g_ValueError : (cx w mean mg mb).glob ("ValueError" : Str) = some (.con (.type "ValueError")) := by kernel_rfl
theorem g_all : (cx w mean mg mb).glob ("all" : Str) = some (.con (.builtin "all")) := by kernel_rfl
theorem g_bool : (cx w mean mg mb).glob ("bool" : Str) = some (.con (.type "bool")) := by kernel_rfl
theorem g_int : (cx w mean mg mb).glob ("int" : Str) = some (.con (.type "int")) := by kernel_rfl
theorem g_isinstance : (cx w mean mg mb).glob ("isinstance" : Str) = some (.con (.builtin "isinstance")) := by kernel_rfl
theorem g_len : (cx w mean mg mb).glob ("len" : Str) = some (.con (.builtin "len")) := by kernel_rfl
theorem g_list : (cx w mean mg mb).glob ("list" : Str) = some (.con (.type "list")) := by kernel_rfl
theorem g_max : (cx w mean mg mb).glob ("max" : Str) = some (.con (.builtin "max")) := by kernel_rfl
theorem g_range : (cx w mean mg mb).glob ("range" : Str) = some (.con (.type "range")) := by kernel_rfl
theorem g_str : (cx w mean mg mb).glob ("str" : Str) = some (.con (.type "str")) := by kernel_rfl
theorem k_int_int : kitOne (cx w mean mg mb).K (.type "int") (.type "int") = some true := by kernel_rfl
theorem k_int_bool : kitOne (cx w mean mg mb).K (.type "int") (.type "bool") = some false := by kernel_rfl
theorem k_int_str : kitOne (cx w mean mg mb).K (.type "int") (.type "str") = some false := by kernel_rfl
theorem k_bool_bool : kitOne (cx w mean mg mb).K (.type "bool") (.type "bool") = some true := by kernel_rfl
theorem k_bool_str : kitOne (cx w mean mg mb).K (.type "bool") (.type "str") = some false := by kernel_rfl
theorem k_str_bool : kitOne (cx w mean mg mb).K (.type "str") (.type "bool") = some false := by kernel_rfl
theorem k_str_str : kitOne (cx w mean mg mb).K (.type "str") (.type "str") = some true := by kernel_rfl
theorem k_NoneType_str : kitOne (cx w mean mg mb).K (.type "NoneType") (.type "str") = some false := by kernel_rfl
theorem k_list_str : kitOne (cx w mean mg mb).K (.type "list") (.type "str") = some false := by kernel_rfl
theorem mi_Sharer : (cx w mean mg mb).init a_Sharer = some m_Sharer_init := by kernel_rfl
theorem mi_Wheel : (cx w mean mg mb).init a_Wheel = some m_Wheel_init := by kernel_rfl
theorem ms_Wheel_need : (cx w mean mg mb).meth a_Wheel ("need" : Str) = some m_Wheel_need := by kernel_rfl
theorem ms_Wheel_enter : (cx w mean mg mb).meth a_Wheel ("enter" : Str) = some m_Wheel_enter := by kernel_rfl
theorem ms_Wheel_leave : (cx w mean mg mb).meth a_Wheel ("leave" : Str) = some m_Wheel_leave := by kernel_rfl
theorem ms_Wheel_reshare : (cx w mean mg mb).meth a_Wheel ("reshare" : Str) = some m_Wheel_reshare := by kernel_rfl
theorem ms_Wheel_wake : (cx w mean mg mb).meth a_Wheel ("wake" : Str) = some m_Wheel_wake := by kernel_rfl
theorem ms_Wheel_rest : (cx w mean mg mb).meth a_Wheel ("rest" : Str) = some m_Wheel_rest := by kernel_rfl
theorem ms_Wheel_whose : (cx w mean mg mb).meth a_Wheel ("whose" : Str) = some m_Wheel_whose := by kernel_rfl
theorem ms_Wheel_turn : (cx w mean mg mb).meth a_Wheel ("turn" : Str) = some m_Wheel_turn := by kernel_rfl
theorem ms_Wheel_names : (cx w mean mg mb).meth a_Wheel ("names" : Str) = some m_Wheel_names := by kernel_rfl
theorem ms_Wheel_clock_of : (cx w mean mg mb).meth a_Wheel ("clock_of" : Str) = some m_Wheel_clock_of := by kernel_rfl
theorem ms_Wheel_share_of : (cx w mean mg mb).meth a_Wheel ("share_of" : Str) = some m_Wheel_share_of := by kernel_rfl
theorem ms_Wheel_is_ready : (cx w mean mg mb).meth a_Wheel ("is_ready" : Str) = some m_Wheel_is_ready := by kernel_rfl
theorem ms_Wheel_copied : (cx w mean mg mb).meth a_Wheel ("copied" : Str) = some m_Wheel_copied := by kernel_rfl
theorem mi_House : (cx w mean mg mb).init a_House = some m_House_init := by kernel_rfl
theorem ms_House_is_team : (cx w mean mg mb).meth a_House ("is_team" : Str) = some m_House_is_team := by kernel_rfl
theorem ms_House_need : (cx w mean mg mb).meth a_House ("need" : Str) = some m_House_need := by kernel_rfl
theorem ms_House_need_hand : (cx w mean mg mb).meth a_House ("need_hand" : Str) = some m_House_need_hand := by kernel_rfl
theorem ms_House_stand : (cx w mean mg mb).meth a_House ("stand" : Str) = some m_House_stand := by kernel_rfl
theorem ms_House_team : (cx w mean mg mb).meth a_House ("team" : Str) = some m_House_team := by kernel_rfl
theorem ms_House_hand : (cx w mean mg mb).meth a_House ("hand" : Str) = some m_House_hand := by kernel_rfl
theorem ms_House_leave : (cx w mean mg mb).meth a_House ("leave" : Str) = some m_House_leave := by kernel_rfl
theorem ms_House_reshare : (cx w mean mg mb).meth a_House ("reshare" : Str) = some m_House_reshare := by kernel_rfl
theorem ms_House_wake : (cx w mean mg mb).meth a_House ("wake" : Str) = some m_House_wake := by kernel_rfl
theorem ms_House_rest : (cx w mean mg mb).meth a_House ("rest" : Str) = some m_House_rest := by kernel_rfl
theorem ms_House_deal : (cx w mean mg mb).meth a_House ("deal" : Str) = some m_House_deal := by kernel_rfl
theorem ms_House_wheel_of : (cx w mean mg mb).meth a_House ("wheel_of" : Str) = some m_House_wheel_of := by kernel_rfl
theorem fn_is_whole : (cx w mean mg mb).fns a_is_whole = true := by kernel_rfl
theorem fn_step : (cx w mean mg mb).fns a_step = true := by kernel_rfl
theorem fn_is_name : (cx w mean mg mb).fns a_is_name = true := by kernel_rfl
theorem fn_law_cell_at : (cx w mean mg mb).fns a_law_cell_at = true := by kernel_rfl
theorem fn_law_name_by : (cx w mean mg mb).fns a_law_name_by = true := by kernel_rfl
theorem fn_law_rows_by : (cx w mean mg mb).fns a_law_rows_by = true := by kernel_rfl
theorem fn_law_ready : (cx w mean mg mb).fns a_law_ready = true := by kernel_rfl
theorem fn_law_above : (cx w mean mg mb).fns a_law_above = true := by kernel_rfl
theorem fn_law_stirred : (cx w mean mg mb).fns a_law_stirred = true := by kernel_rfl
theorem fn_law_dealt : (cx w mean mg mb).fns a_law_dealt = true := by kernel_rfl
theorem fn_law_refusal : (cx w mean mg mb).fns a_law_refusal = true := by kernel_rfl
theorem fn_law_moved : (cx w mean mg mb).fns a_law_moved = true := by kernel_rfl
theorem fn_law_told : (cx w mean mg mb).fns a_law_told = true := by kernel_rfl
theorem fn_law_all_ready : (cx w mean mg mb).fns a_law_all_ready = true := by kernel_rfl
theorem fn_law_good : (cx w mean mg mb).fns a_law_good = true := by kernel_rfl
theorem fn_law_woken : (cx w mean mg mb).fns a_law_woken = true := by kernel_rfl
theorem fn_law_refused_here : (cx w mean mg mb).fns a_law_refused_here = true := by kernel_rfl
theorem fn_law_not_empty : (cx w mean mg mb).fns a_law_not_empty = true := by kernel_rfl
theorem fn_law_come_or_gone : (cx w mean mg mb).fns a_law_come_or_gone = true := by kernel_rfl
theorem fn_law_deed : (cx w mean mg mb).fns a_law_deed = true := by kernel_rfl
theorem om_lo {a g : Nat} (h : 20 <= g /\ g < 96) (k : a < 20) : a ≠ g := fun e => Nat.not_lt_of_le h.1 (e ▸ k)
theorem om_hi {a g : Nat} (h : 20 <= g /\ g < 96) (k : 100 <= a) : a ≠ g := fun e => Nat.not_lt_of_le (Nat.le_trans (by decide : 96 <= 100) k) (e ▸ h.2)
theorem WS.whileO {c : Cx} {i : Ix} {ρ : Lo} {σ : Hp} {X : SX} {Q : MF -> Lo -> Hp -> Prop} {test : Expr} {body : List Stmt} {pos : Pos} (I : Nat -> Lo -> Hp -> Prop) (k : Nat) (h0 : I k ρ σ)
 (h : ∀ k ρ σ, I k ρ σ -> ∀ G : MF -> Lo -> Hp -> Prop, (∀ ρ₂ σ₂ k', k' < k -> I k' ρ₂ σ₂ -> G .next ρ₂ σ₂) -> (∀ ρ₂ σ₂, Q .next ρ₂ σ₂ -> G .brk ρ₂ σ₂) -> (∀ u ρ₂ σ₂, Q (.ret u) ρ₂ σ₂ -> G (.ret u) ρ₂ σ₂) -> WT c i test ρ (fun b σ₁ => if b then WSs c i body ρ G noSX σ₁ else Q .next ρ σ₁) noX σ) : WS c i (.While test body [] pos) ρ Q X σ :=
 WS.while I k h0 fun k ρ σ hI => h k ρ σ hI _ (fun _ _ k' hk hI' => (iEA k' hk hI')) (fun _ _ q => q) (fun _ _ _ q => q)
section
variable {c : Cx} {n : Nat} {hn : Bool} {sc : Scope} {i : Ix} {ρ : Lo} {σ : Hp}
def PE (c : Cx) (i : Ix) (ρ : Lo) (σ : Hp) (e : Expr) (v : MV) : Prop := ∀ (Q : MV -> Hp -> Prop) (X : EX), Q v σ -> WE c i e ρ Q X σ
def PT (c : Cx) (i : Ix) (ρ : Lo) (σ : Hp) (e : Expr) (b : Bool) : Prop := ∀ (Q : Bool -> Hp -> Prop) (X : EX), Q b σ -> WT c i e ρ Q X σ
def PB (c : Cx) (i : Ix) (ρ : Lo) (σ : Hp) (op : Operator) (a b v : MV) : Prop := ∀ (Q : MV -> Hp -> Prop) (X : EX), Q v σ -> WB c i op a b ρ Q X σ
def PC (c : Cx) (i : Ix) (ρ : Lo) (σ : Hp) (op : CmpOp) (a b v : MV) : Prop := ∀ (Q : MV -> Hp -> Prop) (X : EX), Q v σ -> WC c i op a b ρ Q X σ
def PI (c : Cx) (i : Ix) (ρ : Lo) (σ : Hp) (e f : Expr) (a b v : MV) : Prop := ∀ (Q : MV -> Hp -> Prop) (X : EX), Q v σ -> WSub c i e f a b ρ Q X σ
def PG (c : Cx) (i : Ix) (ρ : Lo) (σ : Hp) (a : MV) (x : Str) (v : MV) : Prop := ∀ (Q : MV -> Hp -> Prop) (X : EX), Q v σ -> WGet c i a x ρ Q X σ
theorem PE.use {e v} {Q : MV -> Hp -> Prop} {X : EX} (h : PE c i ρ σ e v) (k : Q v σ) : WE c i e ρ Q X σ := h Q X k
theorem PT.use {e b} {Q : Bool -> Hp -> Prop} {X : EX} (h : PT c i ρ σ e b) (k : Q b σ) : WT c i e ρ Q X σ := h Q X k
theorem PL {x pos v} (hl : sc.names.lookup x = some .local := by kernel_rfl) (hd : (x == ("__debug__" : Str)) = false := by kernel_rfl) (hv : ρ x = some v := by walk_at "lk") : PE c ⟨n, hn, sc⟩ ρ σ (.Name x pos) v := fun _ _ h => WE.localA hl hd hv h
theorem PE.cellA {x pos v} (hl : sc.names.lookup x = some .cell := by kernel_rfl) (hd : (x == ("__debug__" : Str)) = false := by kernel_rfl) (hv : ρ x = some v := by walk_at "lk") : PE c ⟨n, hn, sc⟩ ρ σ (.Name x pos) v := fun _ _ h => WE.cellA hl hd hv h
theorem WE.lo {x pos v} {Q : MV -> Hp -> Prop} {X : EX} (h : Q v σ) (hl : sc.names.lookup x = some .local := by kernel_rfl) (hd : (x == ("__debug__" : Str)) = false := by kernel_rfl) (hv : ρ x = some v := by walk_at "lk") : WE c ⟨n, hn, sc⟩ (.Name x pos) ρ Q X σ := WE.localA hl hd hv h
theorem PE.globalA {x pos v} (hl : sc.names.lookup x = some .globalImplicit) (hv : c.glob x = some v) : PE c ⟨n, hn, sc⟩ ρ σ (.Name x pos) v := fun _ _ h => WE.globalA hl hv h
theorem PE.int {k q pos} : PE c i ρ σ (.Constant (.int k) q pos) (.int k) := fun _ _ h => WE.int h
theorem PE.str {k q pos} : PE c i ρ σ (.Constant (.str k) q pos) (.str k) := fun _ _ h => WE.str h
theorem PE.bool {k q pos} : PE c i ρ σ (.Constant (.bool k) q pos) (.bool k) := fun _ _ h => WE.bool h
theorem PE.none {q pos} : PE c i ρ σ (.Constant .none q pos) .none := fun _ _ h => WE.none h
theorem PE.attr {e x pos a v} (hp : AttrPlain e x) (h1 : PE c i ρ σ e a) (h2 : PG c i ρ σ a x v) : PE c i ρ σ (.Attribute e x pos) v := fun Q X h => WE.attr hp (h1 _ _ (h2 Q X h))
theorem PE.sub {e f pos a b v} (h1 : PE c i ρ σ e a) (h2 : PE c i ρ σ f b) (h3 : PI c i ρ σ e f a b v) : PE c i ρ σ (.Subscript e f pos) v := fun Q X h => WE.sub (h1 _ _ (h2 _ _ (h3 Q X h)))
theorem PE.binop {e f op pos a b v} (h1 : PE c i ρ σ e a) (h2 : PE c i ρ σ f b) (h3 : PB c i ρ σ op a b v) : PE c i ρ σ (.BinOp e op f pos) v := fun Q X h => WE.binop (h1 _ _ (h2 _ _ (h3 Q X h)))
theorem PE.cmp1 {e f op pos a b v} (hm : behindInMarks op f = false) (h1 : PE c i ρ σ e a) (h2 : PE c i ρ σ f b) (h3 : PC c i ρ σ op a b v) : PE c i ρ σ (.Compare e [op] [f] pos) v := fun Q X h => WE.cmp1 hm (h1 _ _ (h2 _ _ (h3 Q X h)))
theorem PT.cmp1 {e f op pos a b v} (hm : behindInMarks op f = false) (h1 : PE c i ρ σ e a) (h2 : PE c i ρ σ f b) (h3 : PC c i ρ σ op a b (.bool v)) : PT c i ρ σ (.Compare e [op] [f] pos) v := fun Q X h => WT.cmp1 hm (h1 _ _ (h2 _ _ (h3 _ _ (Wb h))))
theorem PT.plain {e v} (hp : TruthPlain e) (h1 : PE c i ρ σ e (.bool v)) : PT c i ρ σ e v := fun Q X h => WT.plain hp (h1 _ _ (Wb h))
theorem PT.not {e pos v} (h1 : PT c i ρ σ e v) : PT c i ρ σ (.UnaryOp .Not e pos) (!v) := fun Q X h => WT.not (h1 _ _ h)
theorem PG.inst {a t C x fs v} (e : σ a = some (t, .inst C fs)) (hf : c.fld C x = true) (hv : fs.lookup x = some v) (hp : v.plain = true) : PG c i ρ σ (.ref a) x v := fun _ _ h => WGet.inst e hf hv hp h
theorem PI.list {e f a k xs v} (hs : NoSlice f) (hl : ListAt σ a xs) (h0 : 0 <= k) (h1 : k < 2 ^ 63) (hx : xs[k.toNat]? = some v) : PI c i ρ σ e f (.ref a) (.int k) v := fun _ _ h => WSub.list hs hl h0 h1 hx h
theorem PI.sdict {e f a t es k v} (hs : NoSlice f) (hd : σ a = some (t, .sdict es)) (hv : getK es k = some v) : PI c i ρ σ e f (.ref a) (.str k) v := fun _ _ h => WSub.sdict hs hd hv h
theorem PB.add {a b} : PB c i ρ σ .Add (.int a) (.int b) (.int (a + b)) := fun _ _ h => WB.add h
theorem PB.sub {a b} : PB c i ρ σ .Sub (.int a) (.int b) (.int (a - b)) := fun _ _ h => WB.sub h
theorem PB.mod {a b} (h0 : b ≠ 0) : PB c i ρ σ .Mod (.int a) (.int b) (.int (a.fmod b)) := fun _ _ h => WB.mod h0 h
theorem PB.div {a b} (h0 : b ≠ 0) (h1 : b.natAbs < 1073741824) : PB c i ρ σ .FloorDiv (.int a) (.int b) (.int (a.fdiv b)) := fun _ _ h => WB.div h0 h1 h
theorem PB.mul {a b} (hm : IntMulOk a b) : PB c i ρ σ .Mult (.int a) (.int b) (.int (a * b)) := fun _ _ h => WB.mul hm h
theorem PC.lt {a b} : PC c i ρ σ .Lt (.int a) (.int b) (.bool (decide (a < b))) := fun _ _ h => WC.lt h
theorem PC.gt {a b} : PC c i ρ σ .Gt (.int a) (.int b) (.bool (decide (a > b))) := fun _ _ h => WC.gt h
theorem PC.eqI {a b} : PC c i ρ σ .Eq (.int a) (.int b) (.bool (a == b)) := fun _ _ h => WC.eqI h
theorem PC.eqS {a b} : PC c i ρ σ .Eq (.str a) (.str b) (.bool (a == b)) := fun _ _ h => WC.eqS h
theorem PC.neS {a b} : PC c i ρ σ .NotEq (.str a) (.str b) (.bool (a != b)) := fun _ _ h => WC.neS h
theorem PC.neB {a b} : PC c i ρ σ .NotEq (.bool a) (.bool b) (.bool (a != b)) := fun _ _ h => WC.neB h
def PA (c : Cx) (i : Ix) (ρ : Lo) (σ : Hp) (op : BoolOp) (es : List Expr) (pos : Pos) (t : Env -> Sem Value) (b : Bool) : Prop := ∀ (Q : Bool -> Hp -> Prop) (X : EX), Q b σ -> WA c i op es pos t ρ Q X σ
def PEs (c : Cx) (i : Ix) (ρ : Lo) (σ : Hp) (pos : Pos) (es : List Expr) (vs : List MV) : Prop := ∀ (Q : List MV -> Hp -> Prop) (X : EX), Q vs σ -> WEs c i pos es ρ Q X σ
theorem PEs.use {pos es vs} {Q : List MV -> Hp -> Prop} {X : EX} (h : PEs c i ρ σ pos es vs) (k : Q vs σ) : WEs c i pos es ρ Q X σ := h Q X k
theorem PN {pos} : PEs c i ρ σ pos [] [] := fun _ _ h => WEs.nil h
theorem PEs.cons {pos e es v vs} (h1 : PE c i ρ σ e v) (h2 : PEs c i ρ σ pos es vs) (hs : noStar e = true) : PEs c i ρ σ pos (e :: es) (v :: vs) := fun _ _ h => WEs.cons hs (h1 _ _ (h2 _ _ h))
theorem PA.andT {e rest pos t b r} (h1 : PT c i ρ σ e b) (hb : b = true) (h2 : PA c i ρ σ .And rest pos t r) : PA c i ρ σ .And (e :: rest) pos t r := fun _ _ h => WA.and (h1 _ _ (by subst hb; exact h2 _ _ h))
theorem PA.andF {e rest pos t b} (h1 : PT c i ρ σ e b) (hb : b = false) : PA c i ρ σ .And (e :: rest) pos t false := fun _ _ h => WA.and (h1 _ _ (by subst hb; exact h))
theorem PA.andN {pos t} : PA c i ρ σ .And [] pos t true := fun _ _ h => WA.and_nil h
theorem PA.orF {e rest pos t b r} (h1 : PT c i ρ σ e b) (hb : b = false) (h2 : PA c i ρ σ .Or rest pos t r) : PA c i ρ σ .Or (e :: rest) pos t r := fun _ _ h => WA.or (h1 _ _ (by subst hb; exact h2 _ _ h))
theorem PA.orT {e rest pos t b} (h1 : PT c i ρ σ e b) (hb : b = true) : PA c i ρ σ .Or (e :: rest) pos t true := fun _ _ h => WA.or (h1 _ _ (by subst hb; exact h))
theorem PA.orN {pos t} : PA c i ρ σ .Or [] pos t false := fun _ _ h => WA.or_nil h
theorem PT.boolop {op es pos b} (h : PA c i ρ σ op es pos (eval (.BoolOp op es pos)) b) : PT c i ρ σ (.BoolOp op es pos) b := fun _ _ k => WT.bool (h _ _ k)
theorem b_et {m n : Int} (h : m = n) : (m == n) = true := by simpa using h
theorem WE.callP {x p es pos fn vs} {Q : MV -> Hp -> Prop} {X : EX} (hl : sc.names.lookup x = some .globalImplicit) (hv : c.glob x = some fn) (hc : Callee c fn) (h : PEs c ⟨n, hn, sc⟩ ρ σ pos es vs) (hs : es.all noStar = true) (k : WCall c ⟨n, hn, sc⟩ fn vs ρ Q X σ) : WE c ⟨n, hn, sc⟩ (.Call (.Name x p) es [] pos) ρ Q X σ := WE.call rfl hs (WE.globalA hl hv ⟨hc, h _ _ k⟩)
theorem WE.methP {o x apos es pos a t C fs fa vs} {Q : MV -> Hp -> Prop} {X : EX} (hp : AttrPlain o x) (hs : es.all noStar = true) (hl : decide (es.length < 30) = true) (hpos : (apos.endLine == pos.line) = true) (h1 : PE c i ρ σ o (.ref a)) (e : σ a = some (t, .inst C fs)) (hm : c.meth C x = some fa) (hv : fs.lookup x = Option.none) (hc : Callee c (.ref fa)) (h : PEs c i ρ σ pos es vs) (k : WCall c i (.ref fa) (.ref a :: vs) ρ Q X σ) : WE c i (.Call (.Attribute o x apos) es [] pos) ρ Q X σ := WE.method hp hs hl hpos (h1 _ _ (WM.inst e hm hv ⟨hc, h _ _ k⟩))
theorem WE.mp {o x apos es pos a t C fs fa vs} {Q : MV -> Hp -> Prop} {X : EX} (h1 : PE c i ρ σ o (.ref a)) (e : σ a = some (t, .inst C fs)) (hm : c.meth C x = some fa) (h : PEs c i ρ σ pos es vs) (k : WCall c i (.ref fa) (.ref a :: vs) ρ Q X σ) (hp : (fun env t => attributeBase o x env t) = fun _ t => t := by kernel_rfl) (hs : es.all noStar = true := by kernel_rfl) (hl : decide (es.length < 30) = true := by kernel_rfl) (hpos : (apos.endLine == pos.line) = true := by kernel_rfl) (hv : fs.lookup x = Option.none := by kernel_rfl) : WE c i (.Call (.Attribute o x apos) es [] pos) ρ Q X σ := WE.methP (fun env t => congrFun (congrFun hp env) t) hs hl hpos h1 e hm hv (Callee.meth hm) h k
theorem WE.cp {x p es pos fa vs} {Q : MV -> Hp -> Prop} {X : EX} (hv : c.glob x = some (.ref fa)) (hf : c.fns fa = true) (h : PEs c ⟨n, hn, sc⟩ ρ σ pos es vs) (k : WCall c ⟨n, hn, sc⟩ (.ref fa) vs ρ Q X σ) (hl : sc.names.lookup x = some .globalImplicit := by kernel_rfl) (hs : es.all noStar = true := by kernel_rfl) : WE c ⟨n, hn, sc⟩ (.Call (.Name x p) es [] pos) ρ Q X σ := WE.callP hl hv (Callee.fn hf) h hs k
theorem PE.at {e x pos a t C fs v} (h1 : PE c i ρ σ e (.ref a)) (h2 : σ a = some (t, .inst C fs)) (hv : fs.lookup x = some v) (hp : (fun env t => attributeBase e x env t) = fun _ t => t := by kernel_rfl) (hf : c.fld C x = true := by kernel_rfl) (hq : v.plain = true := by kernel_rfl) : PE c i ρ σ (.Attribute e x pos) v := PE.attr (fun env t => congrFun (congrFun hp env) t) h1 (PG.inst h2 hf hv hq)
theorem PE.ix {e kk p p' a k xs v} (h1 : PE c i ρ σ e (.ref a)) (hl : ListAt σ a xs) (hx : xs[k.toNat]? = some v) (hk : (decide (0 <= k) && decide (k < 2 ^ 63)) = true := by kernel_rfl) : PE c i ρ σ (.Subscript e (.Constant (.int k) kk p) p') v := PE.sub h1 PE.int (PI.list (fun _ _ => rfl) hl (of_decide_eq_true (Bool.and_eq_true_iff.mp hk).1) (of_decide_eq_true (Bool.and_eq_true_iff.mp hk).2) hx)
theorem Px {e kk p p' a t k xs v} (h1 : PE c i ρ σ e (.ref a)) (hl : σ a = some (t, .list xs)) (hx : xs[k.toNat]? = some v) (hk : (decide (0 <= k) && decide (k < 2 ^ 63)) = true := by kernel_rfl) : PE c i ρ σ (.Subscript e (.Constant (.int k) kk p) p') v := PE.ix h1 (.own hl) hx hk
theorem Po {pos e es v vs} (h1 : PE c i ρ σ e v) (h2 : PEs c i ρ σ pos es vs) (hs : noStar e = true := by kernel_rfl) : PEs c i ρ σ pos (e :: es) (v :: vs) := PEs.cons h1 h2 hs
theorem WSs.assignP {x xp e pos rest v} {Q : MF -> Lo -> Hp -> Prop} {X : SX} (hi : NoComp e) (h : PE c ⟨n, hn, sc⟩ ρ σ e v) (hl : sc.names.lookup x = some .local) (k : WSs c ⟨n, hn, sc⟩ rest (ρ.put x v) Q X σ) : WSs c ⟨n, hn, sc⟩ (.Assign [.Name x xp] e pos :: rest) ρ Q X σ := Wc (WS.assign hi (h _ _ (Wl hl k)))
theorem WSs.retP {e pos rest v} {Q : MF -> Lo -> Hp -> Prop} {X : SX} (h : PE c i ρ σ e v) (k : Q (.ret v) ρ σ) : WSs c i (.Return (some e) pos :: rest) ρ Q X σ := Wc (WS.ret (h _ _ k))
theorem WSs.skipP {t bd pos rest b} {Q : MF -> Lo -> Hp -> Prop} {X : SX} (h : PT c i ρ σ t b) (hb : b = false) (k : WSs c i rest ρ Q X σ) : WSs c i (.If t bd [] pos :: rest) ρ Q X σ := Wc (WS.ite (h _ _ (by subst hb; exact Wn k)))
theorem WSs.thenP {t bd o pos rest b} {Q : MF -> Lo -> Hp -> Prop} {X : SX} (h : PT c i ρ σ t b) (hb : b = true) (k : WSs c i bd ρ (Nx c i rest Q X) X σ) : WSs c i (.If t bd o pos :: rest) ρ Q X σ := Wc (WS.ite (h _ _ (by subst hb; exact k)))
theorem WSs.elseP {t bd o pos rest b} {Q : MF -> Lo -> Hp -> Prop} {X : SX} (h : PT c i ρ σ t b) (hb : b = false) (k : WSs c i o ρ (Nx c i rest Q X) X σ) : WSs c i (.If t bd o pos :: rest) ρ Q X σ := Wc (WS.ite (h _ _ (by subst hb; exact k)))
end
local macro_rules | `(tactic| walk_at "lk") => `(tactic| first
 | (with_reducible exact Lo.put_self)
 | ((with_reducible refine Lo.put_ne ?_ ?_); (· kernel_rfl); walk_at "lk")
 | with_reducible assumption)
structure Shr where
 name : Str
 a : Nat
 share : Int
 clock : Int
 ready : Bool
def Shr.obj (x : Shr) : MO := .inst a_Sharer [("share", .int x.share), ("clock", .int x.clock), ("ready", .bool x.ready)]
def wObj (past : Int) (d : Nat) : MO := .inst a_Wheel [("past", .int past), ("sharers", .ref d)]
def ents (l : List Shr) : List (Str × MV) := l.map fun x => (x.name, .ref x.a)
theorem getK_ents : ∀ {l : List Shr} {k : Nat} {x : Shr}, (l.map (·.name)).Nodup -> l[k]? = some x -> getK (ents l) x.name = some (.ref x.a)
 | [], k, x, _, h => by simp at h
 | y :: l, 0, x, _, h => by
  simp at h; subst h
  simp [getK, ents]
 | y :: l, k + 1, x, nd, h => by
  simp only [List.map_cons, List.nodup_cons] at nd
  simp only [List.getElem?_cons_succ] at h
  have hm : x.name ∈ l.map (·.name) := Mn (iEA x (Mg h) rfl)
  have hne : y.name ≠ x.name := fun q => nd.1 (q ▸ hm)
  have ih := getK_ents nd.2 h
  simp only [getK, ents, List.map_cons, List.find?_cons, decide_eq_false hne] at ih ⊢
  exact ih
theorem getK_out {l : List Shr} {n : Str} (h : n ∉ l.map (·.name)) : getK (ents l) n = Option.none := by
 unfold getK ents
 rw [List.find?_eq_none.mpr]
 · rfl
 · intro p hp
   refine eEA (Mm hp) fun x hx z1' => ?_; subst z1'
   simp only [decide_eq_true_eq]
   exact fun q => h (Mn (iEA x hx q))
theorem putK_out {l : List Shr} {n : Str} {v : MV} (h : n ∉ l.map (·.name)) : putK (ents l) n v = ents l ++ [(n, v)] := by
 unfold putK
 rw [if_neg]
 simp only [Bool.not_eq_true, List.any_eq_false, decide_eq_true_eq]
 intro p hp
 refine eEA (Mm hp) fun x hx z1' => ?_; subst z1'
 exact fun q => h (Mn (iEA x hx q))
structure WheelD (σ : Hp) (W d t : Nat) (past : Int) (l : List Shr) : Prop where
 whl : σ W = some (t, wObj past d)
 dic : σ d = some (t, .sdict (ents l))
 shr : ∀ x ∈ l, σ x.a = some (t, x.obj)
 nn : (l.map (·.name)).Nodup
 na : (l.map (·.a)).Nodup
theorem WheelD.keep {σ σ' : Hp} {W d t : Nat} {past : Int} {l : List Shr} (h : WheelD σ W d t past l) (k : Kpt t σ σ') : WheelD σ' W d t past l :=
 ⟨k.at h.whl, k.at h.dic, fun x hx => k.at (h.shr x hx), h.nn, h.na⟩
theorem WheelD.past {σ : Hp} {W d t : Nat} {past past' : Int} {l : List Shr} (h : WheelD σ W d t past l) : WheelD (σ.put W t (wObj past' d)) W d t past' l where
 whl := Hp.self
 dic := Hp.ne (fun q => by have := h.dic; rw [q, h.whl] at this; simp [wObj] at this) h.dic
 shr := fun x hx => Hp.ne (fun q => by have := h.shr x hx; rw [q, h.whl] at this; simp [wObj, Shr.obj] at this) (h.shr x hx)
 nn := h.nn
 na := h.na
theorem map_set' {α β : Type} (f : α -> β) (l : List α) (k : Nat) (y : α) : (l.set k y).map f = (l.map f).set k (f y) := List.map_set
theorem set_same {α : Type} : ∀ {l : List α} {k : Nat} {y : α}, l[k]? = some y -> l.set k y = l
 | [], _, _, h => by simp at h
 | z :: l, 0, y, h => by simp at h; subst h; rfl
 | z :: l, k + 1, y, h => by
  simp only [List.getElem?_cons_succ] at h
  simp only [List.set_cons_succ, set_same h]
theorem map_set_same {α β : Type} (f : α -> β) {l : List α} {k : Nat} {x y : α} (h : l[k]? = some x) (e : f y = f x) : (l.set k y).map f = l.map f := by
 rw [map_set', e]
 exact set_same (by rw [List.getElem?_map, h]; rfl)
theorem mem_set_or {α : Type} {l : List α} {k : Nat} {y z : α} (h : z ∈ l.set k y) : z = y ∨ ∃ j, j ≠ k /\ l[j]? = some z := by
 obtain ⟨j, hj⟩ := Mi h
 rw [List.getElem?_set] at hj
 by_cases q : k = j
 · subst q
   simp only [if_true] at hj
   split at hj
   · exact .inl (Oi hj).symm
   · simp at hj
 · rw [if_neg q] at hj
   exact .inr (iEA j (fun e => q e.symm) hj)
theorem nodup_at {α β : Type} {f : α -> β} : ∀ {l : List α} {j k : Nat} {x y : α}, (l.map f).Nodup -> l[j]? = some x -> l[k]? = some y -> f x = f y -> j = k
 | [], _, _, _, _, _, h, _, _ => by simp at h
 | z :: l, 0, 0, _, _, _, _, _, _ => rfl
 | z :: l, 0, k + 1, x, y, nd, hx, hy, e => by
  simp only [List.map_cons, List.nodup_cons] at nd
  simp at hx hy; subst hx
  exact absurd (Mn (iEA y (Mg hy) e.symm)) nd.1
 | z :: l, j + 1, 0, x, y, nd, hx, hy, e => by
  simp only [List.map_cons, List.nodup_cons] at nd
  simp at hx hy; subst hy
  exact absurd (Mn (iEA x (Mg hx) e)) nd.1
 | z :: l, j + 1, k + 1, x, y, nd, hx, hy, e => by
  simp only [List.map_cons, List.nodup_cons] at nd
  simp only [List.getElem?_cons_succ] at hx hy
  rw [nodup_at nd.2 hx hy e]
theorem WheelD.upd {σ : Hp} {W d t : Nat} {past : Int} {l : List Shr} (h : WheelD σ W d t past l) {k : Nat} {x y : Shr} (hk : l[k]? = some x) (hn : y.name = x.name) (ha : y.a = x.a) :
 WheelD (σ.put x.a t y.obj) W d t past (l.set k y) where
 whl := Hp.ne (fun q => by have := h.shr x (Mg hk); rw [<- q, h.whl] at this; simp [wObj, Shr.obj] at this) h.whl
 dic := Hp.ne (fun q => by have := h.shr x (Mg hk); rw [<- q, h.dic] at this; simp [Shr.obj] at this) (by
  rw [h.dic]
  have : ents (l.set k y) = ents l := map_set_same _ hk (by rw [hn, ha])
  rw [this])
 shr := fun z hz => by
  rcases mem_set_or hz with rfl | ⟨j, hj, hz⟩
  · rw [ha]; exact Hp.self
  · exact Hp.ne (fun q => hj (nodup_at h.na hz hk q)) (h.shr z (Mg hz))
 nn := by rw [map_set_same _ hk hn]; exact h.nn
 na := by rw [map_set_same _ hk ha]; exact h.na
theorem WheelD.enter {σ : Hp} {W d t : Nat} {past : Int} {l : List Shr} (h : WheelD σ W d t past l) {y : Shr} (hb : σ y.a = Option.none) (hn : y.name ∉ l.map (·.name)) :
 WheelD ((σ.put y.a t y.obj).put d t (.sdict (ents (l ++ [y])))) W d t past (l ++ [y]) where
 whl := Hp.ne (fun q => by have := h.dic; rw [<- q, h.whl] at this; simp [wObj] at this) (Hp.new hb h.whl)
 dic := Hp.self
 shr := fun z hz => by
  rcases List.mem_append.mp hz with hz | hz
  · exact Hp.ne (fun q => by have := h.dic; rw [<- q, h.shr z hz] at this; simp [Shr.obj] at this) (Hp.new hb (h.shr z hz))
  · simp at hz; subst hz
    exact Hp.ne (fun q => by have := h.dic; rw [<- q, hb] at this; simp at this) Hp.self
 nn := by
  rw [List.map_append]
  refine List.nodup_append.mpr (iA2 h.nn (by simp) (fun a ha b hb q => ?_))
  simp at hb; subst hb; subst q; exact hn ha
 na := by
  rw [List.map_append]
  refine List.nodup_append.mpr (iA2 h.na (by simp) (fun a ha b hb' q => ?_))
  simp at hb'; subst hb'
  refine eEA (Mm ha) fun z hz e => ?_
  have := h.shr z hz
  rw [e, q, hb] at this; simp at this
/-- whose turn it is -/
def better (x : Shr) : Option Shr -> Bool
 | .none => true
 | some y => decide (x.clock < y.clock)
def pick : List Shr -> Option Shr -> Option Shr
 | [], f => f
 | x :: l, f => pick l (if x.ready && better x f then some x else f)
def whoV : Option Shr -> MV
 | .none => .none
 | some x => .str x.name
def dealt (x : Shr) : Shr := { x with clock := x.clock + (27720 : Int).fdiv x.share }
theorem pick_none : ∀ {l : List Shr} {f : Option Shr}, (∀ x ∈ l, x.ready = false) -> pick l f = f
 | [], _, _ => rfl
 | x :: l, f, h => by
  simp only [pick, h x (List.mem_cons_self ..), Bool.false_and]
  exact pick_none fun y hy => h y (List.mem_cons_of_mem _ hy)
theorem pick_mem : ∀ {l : List Shr} {f : Option Shr} {x : Shr}, pick l f = some x -> (x ∈ l /\ x.ready = true) ∨ f = some x
 | [], _, _, h => .inr h
 | y :: l, f, x, h => by
  simp only [pick] at h
  rcases pick_mem h with h | h
  · exact .inl ⟨List.mem_cons_of_mem _ h.1, h.2⟩
  · split at h
    · rename_i q
      cases h
      simp only [Bool.and_eq_true] at q
      exact .inl ⟨List.mem_cons_self .., q.1⟩
    · exact .inr h
theorem is_whole_int {k lo hi : Int} (h : Q (.bool (decide (lo <= k) && decide (k <= hi))) σ) : WFn (cx w mean mg mb) ⟨n + 1, true, sc⟩ a_is_whole [.int k, .int lo, .int hi] ρ Q X σ := by
 refine WFn.fn3 (p1 := "thing") (p2 := "least") (p3 := "most") (FnAt.of3 (rfl : (Mine.hd.heap_39 w.params).lookup a_is_whole = _) (by kernel_rfl) (fun _ _ _ => rfl) (by kernel_rfl)) ?_
 refine Wc (WS.ite (WT.bool (WA.or (WT.plain (fun _ _ => rfl) (WE.callP (by kernel_rfl) g_isinstance (Callee.con rfl) (Po PL (Po (PE.globalA (by kernel_rfl) g_bool) PN)) rfl ?_)))))
 refine WCall.isinstance KindOf.int k_int_bool ?_
 refine Wb (if_ff (WA.or (WT.not (WT.plain (fun _ _ => rfl) (WE.callP (by kernel_rfl) g_isinstance (Callee.con rfl) (Po PL (Po (PE.globalA (by kernel_rfl) g_int) PN)) rfl ?_)))))
 refine WCall.isinstance KindOf.int k_int_int ?_
 refine Wb (if_nt ?_)
 refine WA.or_nil (if_ff (Wn (Wc (WS.ret (WE.cmp2 rfl ?_)))))
 refine WE.lo ?_
 refine WE.lo ?_
 refine WC.le ?_
 refine Wb ?_
 by_cases h1 : lo <= k
 · rw [decide_eq_true h1] at h ⊢
   refine if_tt (WE.lo ?_)
   refine WC.le ?_
   exact h
 · rw [decide_eq_false h1] at h ⊢
   refine if_ff ?_
   exact h
theorem step_ok {k : Int} (h0 : 1 <= k) (h1 : k <= 12) (h : Q (.int ((27720 : Int).fdiv k)) σ) : WFn (cx w mean mg mb) ⟨n + 2, true, sc⟩ a_step [.int k] ρ Q X σ := by
 refine WFn.fn1 (p1 := "share") (FnAt.of1 (rfl : (Mine.hd.heap_39 w.params).lookup a_step = _) (by kernel_rfl) (fun _ => rfl) (by kernel_rfl)) ?_
 refine Wc (WS.ite (WT.not (WT.plain (fun _ _ => rfl) (WE.cp g_is_whole fn_is_whole (Po PL (Po PE.int (Po (PE.globalA (by kernel_rfl) g_MOST) PN))) ?_))))
 have e : (decide (1 <= k) && decide (k <= 12)) = true := by rw [decide_eq_true h0, decide_eq_true h1]; rfl
 refine Wf (is_whole_int ?_)
 rw [e]
 refine Wb (if_nt ?_)
 refine Wn (WSs.retP (PE.binop (PE.globalA (by kernel_rfl) g_ROUND) PL (PB.div (by omega) (by omega))) ?_)
 exact h
theorem make_sharer (t : Nat) {v1 v2 v3 : MV} (h : ∀ b, Fresh σ b -> Q (.ref b) (σ.put b t (.inst a_Sharer [("share", v1), ("clock", v2), ("ready", v3)]))) :
 WFn (cx w mean mg mb) ⟨n + 2, true, sc⟩ a_Sharer [v1, v2, v3] ρ Q X σ := by
 refine WFn.make t mi_Sharer fun b hb hbn => ?_
 refine WFn.fn4 (p1 := "self") (p2 := "share") (p3 := "clock") (p4 := "ready") (FnAt.of4 (rfl : (Mine.hd.heap_39 w.params).lookup m_Sharer_init = _) (by kernel_rfl) (fun _ _ _ _ => rfl) (by kernel_rfl)) ?_
 refine Wc (WS.setAttr (fun _ _ _ => rfl) (WE.lo ?_))
 refine WE.lo ?_
 refine WSet.inst' (fs' := [("share", v1)]) Hp.self (by kernel_rfl) (by kernel_rfl) (by simp) ?_
 refine Wc (WS.setAttr (fun _ _ _ => rfl) (WE.lo ?_))
 refine WE.lo ?_
 refine WSet.inst' (fs' := [("share", v1), ("clock", v2)]) Hp.self (by kernel_rfl) (by kernel_rfl) (by simp) ?_
 refine Wc (WS.setAttr (fun _ _ _ => rfl) (WE.lo ?_))
 refine WE.lo ?_
 refine WSet.inst' (fs' := [("share", v1), ("clock", v2), ("ready", v3)]) Hp.self (by kernel_rfl) (by kernel_rfl) (by simp) ?_
 refine Wn (⟨rfl, ?_⟩)
 rw [Hp.put_put, Hp.put_put, Hp.put_put]
 exact h b hb
theorem need_c {W d t k : Nat} {past : Int} {l : List Shr} {x : Shr} (h : WheelD σ W d t past l) (hk : l[k]? = some x) (hq : Q (.ref x.a) σ) : WFn (cx w mean mg mb) ⟨n + 1, true, sc⟩ m_Wheel_need [.ref W, .str x.name] ρ Q X σ := by
 have hW : σ W = some (t, .inst a_Wheel [("past", .int past), ("sharers", .ref d)]) := h.whl
 have hd := h.dic
 have hg : getK (ents l) x.name = some (.ref x.a) := getK_ents h.nn hk
 refine WFn.fn2 (p1 := "self") (p2 := "name") (FnAt.of2 (rfl : (Mine.hd.heap_39 w.params).lookup m_Wheel_need = _) (by kernel_rfl) (fun _ _ => rfl) (by kernel_rfl)) ?_
 refine Wc (WS.ite (WT.bool (WA.or (WT.not (WT.plain (fun _ _ => rfl) (WE.callP (by kernel_rfl) g_isinstance (Callee.con rfl) (Po PL (Po (PE.globalA (by kernel_rfl) g_str) PN)) rfl ?_))))))
 refine WCall.isinstance KindOf.str k_str_str ?_
 refine Wb (if_nt ?_)
 refine WA.or (WT.cmp1 rfl (WE.lo ?_))
 refine PE.use (PE.at PL ‹_› (lk_tail (by kernel_rfl) lk_head)) ?_
 refine WC.notInS_t ‹_› ‹_› ?_
 refine Wb (if_ff (WA.or_nil (if_ff (Wn (WSs.retP (PE.sub (PE.at PL ‹_› (lk_tail (by kernel_rfl) lk_head)) PL (PI.sdict (fun _ _ => rfl) ‹_› ‹_›)) ?_)))))
 exact hq
theorem enter_c {W d t : Nat} {past : Int} {l : List Shr} {nm : Str} {share : Int} (h : WheelD σ W d t past l) (hn : nm ∉ l.map (·.name)) (h0 : 1 <= share) (h1 : share <= 12) (hz : l.length <= 1000000)
 (hq : ∀ a σ', WheelD σ' W d t past (l ++ [⟨nm, a, share, 0, false⟩]) -> Oth t σ σ' -> Q .none σ') : WFn (cx w mean mg mb) ⟨n + 3, true, sc⟩ m_Wheel_enter [.ref W, .str nm, .int share] ρ Q X σ := by
 have hW : σ W = some (t, .inst a_Wheel [("past", .int past), ("sharers", .ref d)]) := h.whl
 have hd := h.dic
 have hg : getK (ents l) nm = Option.none := getK_out hn
 refine WFn.fn3 (p1 := "self") (p2 := "name") (p3 := "share") (FnAt.of3 (rfl : (Mine.hd.heap_39 w.params).lookup m_Wheel_enter = _) (by kernel_rfl) (fun _ _ _ => rfl) (by kernel_rfl)) ?_
 refine Wc (WS.ite (WT.cmp1 rfl (WE.lo ?_)))
 refine PE.use (PE.at PL ‹_› (lk_tail (by kernel_rfl) lk_head)) ?_
 refine WC.inS_f ‹_› ‹_› ?_
 refine Wb (if_ff (Wn (Wc (WS.expr (fun _ _ _ => rfl) (WE.cp g_step fn_step (Po PL PN) ?_)))))
 refine Wf (step_ok h0 h1 ?_)
 refine Wc (WS.setItem (fun _ _ _ => rfl) (WE.callP (by kernel_rfl) g_Sharer (Callee.cls mi_Sharer) (Po PL (Po PE.int (Po PE.bool PN))) rfl ?_))
 refine Wf (make_sharer t fun b hb => ?_)
 refine PE.use (PE.at PL (Hp.new (Fresh.none ‹_›) ‹_›) (lk_tail (by kernel_rfl) lk_head)) ?_
 refine WE.lo ?_
 refine WPut.sdict (Hp.new (Fresh.none ‹_›) ‹_›) (by simpa [ents] using hz) ?_
 refine Wn ?_
 rw [putK_out hn]
 have hw := WheelD.enter h (y := ⟨nm, b, share, 0, false⟩) hb.none hn
 have e : ents (l ++ [⟨nm, b, share, 0, false⟩]) = ents l ++ [(nm, .ref b)] := by simp [ents]
 rw [e] at hw
 exact hq b _ hw (Oth.put (Oth.refl.new hb.none) (Hp.new hb.none hd))
theorem clock_c {W d t k : Nat} {past : Int} {l : List Shr} {x : Shr} (h : WheelD σ W d t past l) (hk : l[k]? = some x) (hq : Q (.int x.clock) σ) : WFn (cx w mean mg mb) ⟨n + 2, true, sc⟩ m_Wheel_clock_of [.ref W, .str x.name] ρ Q X σ := by
 have hW : σ W = some (t, .inst a_Wheel [("past", .int past), ("sharers", .ref d)]) := h.whl
 have hx : σ x.a = some (t, .inst a_Sharer [("share", .int x.share), ("clock", .int x.clock), ("ready", .bool x.ready)]) := h.shr x (Mg hk)
 refine WFn.fn2 (p1 := "self") (p2 := "name") (FnAt.of2 (rfl : (Mine.hd.heap_39 w.params).lookup m_Wheel_clock_of = _) (by kernel_rfl) (fun _ _ => rfl) (by kernel_rfl)) ?_
 refine Wc (WS.ret (WE.attr (fun _ _ => rfl) (WE.mp PL ‹_› ms_Wheel_need (Po PL PN) ?_)))
 refine Wf (need_c h hk ?_)
 refine WGet.inst ‹_› (by kernel_rfl) (lk_tail (by kernel_rfl) lk_head) (by with_unfolding_all rfl) ?_
 exact hq
theorem ready_c {W d t k : Nat} {past : Int} {l : List Shr} {x : Shr} (h : WheelD σ W d t past l) (hk : l[k]? = some x) (hq : Q (.bool x.ready) σ) : WFn (cx w mean mg mb) ⟨n + 2, true, sc⟩ m_Wheel_is_ready [.ref W, .str x.name] ρ Q X σ := by
 have hW : σ W = some (t, .inst a_Wheel [("past", .int past), ("sharers", .ref d)]) := h.whl
 have hx : σ x.a = some (t, .inst a_Sharer [("share", .int x.share), ("clock", .int x.clock), ("ready", .bool x.ready)]) := h.shr x (Mg hk)
 refine WFn.fn2 (p1 := "self") (p2 := "name") (FnAt.of2 (rfl : (Mine.hd.heap_39 w.params).lookup m_Wheel_is_ready = _) (by kernel_rfl) (fun _ _ => rfl) (by kernel_rfl)) ?_
 refine Wc (WS.ret (WE.attr (fun _ _ => rfl) (WE.mp PL ‹_› ms_Wheel_need (Po PL PN) ?_)))
 refine Wf (need_c h hk ?_)
 refine WGet.inst ‹_› (by kernel_rfl) (lk_tail (by kernel_rfl) (lk_tail (by kernel_rfl) lk_head)) (by with_unfolding_all rfl) ?_
 exact hq
def woken (past : Int) (x : Shr) : Shr := if x.ready then x else { x with clock := (if past > x.clock then past else x.clock), ready := true }
theorem woken_ready {past : Int} {x : Shr} : (woken past x).ready = true := by
 unfold woken
 split
 · assumption
 · rfl
theorem wake_c {W d t k : Nat} {past : Int} {l : List Shr} {x : Shr} (h : WheelD σ W d t past l) (hk : l[k]? = some x) (hq : ∀ σ', WheelD σ' W d t past (l.set k (woken past x)) -> Oth t σ σ' -> Q (.bool (!x.ready)) σ') :
 WFn (cx w mean mg mb) ⟨n + 2, true, sc⟩ m_Wheel_wake [.ref W, .str x.name] ρ Q X σ := by
 have hW : σ W = some (t, .inst a_Wheel [("past", .int past), ("sharers", .ref d)]) := h.whl
 have hx : σ x.a = some (t, .inst a_Sharer [("share", .int x.share), ("clock", .int x.clock), ("ready", .bool x.ready)]) := h.shr x (Mg hk)
 refine WFn.fn2 (p1 := "self") (p2 := "name") (FnAt.of2 (rfl : (Mine.hd.heap_39 w.params).lookup m_Wheel_wake = _) (by kernel_rfl) (fun _ _ => rfl) (by kernel_rfl)) ?_
 refine Wc (WS.assign (fun _ _ _ => rfl) (WE.mp PL ‹_› ms_Wheel_need (Po PL PN) ?_))
 refine Wf (need_c h hk ?_)
 refine Wl (by kernel_rfl) ?_
 refine Wc (WS.ite (PT.use (PT.plain (fun _ _ => rfl) (PE.at PL ‹_› (lk_tail (by kernel_rfl) (lk_tail (by kernel_rfl) lk_head)))) ?_))
 cases hr : x.ready
 · rw [hr] at hx hq
   refine if_ff (Wn (Wc (WS.setAttr (fun _ _ _ => rfl) (WE.bool (WE.lo ?_)))))
   refine WSet.inst' (fs' := [("share", .int x.share), ("clock", .int x.clock), ("ready", .bool true)]) hx (by kernel_rfl) (by kernel_rfl) (by simp) ?_
   have h1 : WheelD (σ.put x.a t (.inst a_Sharer [("share", .int x.share), ("clock", .int x.clock), ("ready", .bool true)])) W d t past (l.set k { x with ready := true }) := h.upd (y := { x with ready := true }) hk rfl rfl
   have hW1 : (σ.put x.a t (.inst a_Sharer [("share", .int x.share), ("clock", .int x.clock), ("ready", .bool true)])) W = some (t, .inst a_Wheel [("past", .int past), ("sharers", .ref d)]) := h1.whl
   refine Wc (WS.setAttr (fun _ _ _ => rfl) (WE.callP (by kernel_rfl) g_max (Callee.con rfl) (Po (PE.at PL Hp.self (lk_tail (by kernel_rfl) lk_head)) (Po (PE.at PL ‹_› lk_head) PN)) rfl ?_))
   refine WCall.max2 rfl ?_
   refine WE.lo ?_
   refine WSet.inst' (fs' := [("share", .int x.share), ("clock", .int (if past > x.clock then past else x.clock)), ("ready", .bool true)]) Hp.self (by kernel_rfl) (by kernel_rfl) (by simp) ?_
   refine WSs.retP PE.bool ?_
   rw [Hp.put_put]
   have h2 := h.upd (y := woken past x) hk (by simp [woken, hr]) (by simp [woken, hr])
   have e : (woken past x).obj = .inst a_Sharer [("share", .int x.share), ("clock", .int (if past > x.clock then past else x.clock)), ("ready", .bool true)] := by simp [woken, hr, Shr.obj]
   rw [e] at h2
   exact hq _ h2 (Oth.put Oth.refl hx)
 · rw [hr] at hx hq
   refine if_tt (WSs.retP PE.bool ?_)
   have e : woken past x = x := by simp [woken, hr]
   rw [e, set_same hk] at hq
   exact hq _ h Oth.refl
theorem rest_c {W d t k : Nat} {past : Int} {l : List Shr} {x : Shr} (h : WheelD σ W d t past l) (hk : l[k]? = some x) (hq : ∀ σ', WheelD σ' W d t past (l.set k { x with ready := false }) -> Oth t σ σ' -> Q (.bool x.ready) σ') :
 WFn (cx w mean mg mb) ⟨n + 2, true, sc⟩ m_Wheel_rest [.ref W, .str x.name] ρ Q X σ := by
 have hW : σ W = some (t, .inst a_Wheel [("past", .int past), ("sharers", .ref d)]) := h.whl
 have hx : σ x.a = some (t, .inst a_Sharer [("share", .int x.share), ("clock", .int x.clock), ("ready", .bool x.ready)]) := h.shr x (Mg hk)
 refine WFn.fn2 (p1 := "self") (p2 := "name") (FnAt.of2 (rfl : (Mine.hd.heap_39 w.params).lookup m_Wheel_rest = _) (by kernel_rfl) (fun _ _ => rfl) (by kernel_rfl)) ?_
 refine Wc (WS.assign (fun _ _ _ => rfl) (WE.mp PL ‹_› ms_Wheel_need (Po PL PN) ?_))
 refine Wf (need_c h hk ?_)
 refine Wl (by kernel_rfl) ?_
 refine Wc (WS.ite (PT.use (PT.not (PT.plain (fun _ _ => rfl) (PE.at PL ‹_› (lk_tail (by kernel_rfl) (lk_tail (by kernel_rfl) lk_head))))) ?_))
 cases hr : x.ready
 · rw [hr] at hx hq
   refine if_nf ?_
   refine WSs.retP PE.bool ?_
   have e : ({ x with ready := false } : Shr) = x := by cases x; simp at hr; subst hr; rfl
   rw [e, set_same hk] at hq
   exact hq _ h Oth.refl
 · rw [hr] at hx hq
   refine if_nt ?_
   refine Wn (Wc (WS.setAttr (fun _ _ _ => rfl) (WE.bool (WE.lo ?_))))
   refine WSet.inst' (fs' := [("share", .int x.share), ("clock", .int x.clock), ("ready", .bool false)]) hx (by kernel_rfl) (by kernel_rfl) (by simp) ?_
   refine WSs.retP PE.bool ?_
   exact hq _ (h.upd (y := { x with ready := false }) hk rfl rfl) (Oth.put Oth.refl hx)
theorem whose_c {W d t : Nat} {past : Int} {l : List Shr} (h : WheelD σ W d t past l) (hz : l.length <= 1000000) (hq : ∀ b, Fresh σ b -> Q (whoV (pick l Option.none)) (σ.put b t (.list ((ents l).map fun p => .str p.1)))) :
 WFn (cx w mean mg mb) ⟨n + 1, true, sc⟩ m_Wheel_whose [.ref W] ρ Q X σ := by
 have hW : σ W = some (t, .inst a_Wheel [("past", .int past), ("sharers", .ref d)]) := h.whl
 have hd := h.dic
 refine WFn.fn1 (p1 := "self") (FnAt.of1 (rfl : (Mine.hd.heap_39 w.params).lookup m_Wheel_whose = _) (by kernel_rfl) (fun _ => rfl) (by kernel_rfl)) ?_
 refine WSs.assignP (fun _ _ _ => rfl) PE.none (by kernel_rfl) ?_
 refine Wc (WS.for rfl (fun _ _ => rfl) ?_)
 refine WE.callP (by kernel_rfl) g_list (Callee.con rfl) (Po (PE.at PL ‹_› (lk_tail (by kernel_rfl) lk_head)) PN) rfl ?_
 refine WCall.listKeys t rfl hd (by simpa [ents] using hz) fun b hb => ?_
 have hW' : (σ.put b t (.list ((ents l).map fun p => .str p.1))) W = _ := Hp.new hb.none hW
 have hd' : (σ.put b t (.list ((ents l).map fun p => .str p.1))) d = _ := Hp.new hb.none hd
 have hs' : ∀ x ∈ l, (σ.put b t (.list ((ents l).map fun p => .str p.1))) x.a = some (t, .inst a_Sharer [("share", .int x.share), ("clock", .int x.clock), ("ready", .bool x.ready)]) := fun x hx => Hp.new hb.none (h.shr x hx)
 have hb' : (σ.put b t (.list ((ents l).map fun p => .str p.1))) b = _ := Hp.self
 have hq' := hq b hb
 refine (iEEA _ _ (Iterable.list (ListAt.own hb')) ?_)
 generalize σ.put b t (.list ((ents l).map fun p => .str p.1)) = σ1 at hW' hd' hs' hb' hq' ⊢
 refine WFor.byIdx (fun j ρ' σ' => σ' = σ1 /\ ρ' "self" = some (.ref W) /\ ∃ f, ρ' "found" = some (whoV f) /\ (∀ y, f = some y -> ∃ k : Nat, l[k]? = some y) /\ pick (l.drop j) f = pick l Option.none) ?_ ?_ ?_
 · exact (iA2 rfl (by walk_at "lk") (iEAA Option.none (by (change _ = some MV.none); walk_at "lk") (fun y hy => nomatch hy) rfl))
 · rintro j v ρ' σ' hv ⟨es, hself, f, hf, hfm, hp⟩
   subst es
   have hx : ∃ x, l[j]? = some x /\ v = .str x.name := by
    simp only [ents, List.map_map, List.getElem?_map] at hv
    cases q : l[j]? with
    | none => rw [q] at hv; exact nomatch hv
    | some x => rw [q] at hv; exact (iEA x rfl ((Oi hv).symm))
   refine eEA hx fun x z2' z1' => ?_; clear hx; have hx := z2'; clear z2'; subst z1'
   have hdr : l.drop j = x :: l.drop (j + 1) := by
    obtain ⟨hlt, e⟩ := Gs hx
    rw [List.drop_eq_getElem_cons hlt, e]
   rw [hdr] at hp
   have hxo := hs' x (Mg hx)
   have hg : getK (ents l) x.name = some (.ref x.a) := getK_ents h.nn hx
   refine ⟨ListAt.own hb', ?_⟩
   cases hr : x.ready
   · rw [hr] at hxo
     simp only [pick, hr, Bool.false_and] at hp
     refine Wl (by kernel_rfl) ?_
     refine WSs.assignP (fun _ _ _ => rfl) (PE.sub (PE.at PL ‹_› (lk_tail (by kernel_rfl) lk_head)) PL (PI.sdict (fun _ _ => rfl) ‹_› ‹_›)) (by kernel_rfl) ?_
     refine WSs.skipP (PT.boolop (PA.andF (PT.plain (fun _ _ => rfl) (PE.at PL ‹_› (lk_tail (by kernel_rfl) (lk_tail (by kernel_rfl) lk_head)))) rfl)) rfl ?_
     refine Wn ?_
     exact (iA2 rfl (by walk_at "lk") (iEAA f (by walk_at "lk") hfm hp))
   · rw [hr] at hxo
     cases f with
     | none =>
      have hf' : ρ' "found" = some .none := hf
      clear hf
      simp only [pick, hr, better, Bool.and_self] at hp
      refine Wl (by kernel_rfl) ?_
      refine WSs.assignP (fun _ _ _ => rfl) (PE.sub (PE.at PL ‹_› (lk_tail (by kernel_rfl) lk_head)) PL (PI.sdict (fun _ _ => rfl) ‹_› ‹_›)) (by kernel_rfl) ?_
      refine Wc (WS.ite (WT.bool (WA.and (PT.use (PT.plain (fun _ _ => rfl) (PE.at PL ‹_› (lk_tail (by kernel_rfl) (lk_tail (by kernel_rfl) lk_head)))) ?_))))
      refine if_tt (WA.and (WT.bool (WA.or (WT.cmp1 rfl (WE.lo ?_)))))
      refine WE.none (WC.isNN ?_)
      refine Wb (if_tt (if_tt (WA.and_nil (if_tt (WSs.assignP (fun _ _ _ => rfl) PL (by kernel_rfl) ?_)))))
      refine Wn (Wn ?_)
      exact (iA2 rfl (by walk_at "lk") (iEAA (some x) (by (change _ = some (MV.str x.name)); walk_at "lk") (fun y hy => by cases hy; exact ⟨j, hx⟩) hp))
     | some y =>
      obtain ⟨k, hk⟩ := hfm y rfl
      have hf' : ρ' "found" = some (.str y.name) := hf
      clear hf
      have hyo := hs' y (Mg hk)
      have hgy : getK (ents l) y.name = some (.ref y.a) := getK_ents h.nn hk
      simp only [pick, hr, better, Bool.true_and] at hp
      by_cases hlt : x.clock < y.clock
      · rw [decide_eq_true hlt] at hp
        refine Wl (by kernel_rfl) ?_
        refine WSs.assignP (fun _ _ _ => rfl) (PE.sub (PE.at PL ‹_› (lk_tail (by kernel_rfl) lk_head)) PL (PI.sdict (fun _ _ => rfl) ‹_› ‹_›)) (by kernel_rfl) ?_
        refine Wc (WS.ite (WT.bool (WA.and (PT.use (PT.plain (fun _ _ => rfl) (PE.at PL ‹_› (lk_tail (by kernel_rfl) (lk_tail (by kernel_rfl) lk_head)))) ?_))))
        refine if_tt (WA.and (WT.bool (WA.or (WT.cmp1 rfl (WE.lo ?_)))))
        refine WE.none (WC.isNS ?_)
        refine Wb (if_ff (WA.or (PT.use (PT.cmp1 rfl (PE.at PL ‹_› (lk_tail (by kernel_rfl) lk_head)) (PE.at (PE.sub (PE.at PL ‹_› (lk_tail (by kernel_rfl) lk_head)) PL (PI.sdict (fun _ _ => rfl) ‹_› ‹_›)) ‹_› (lk_tail (by kernel_rfl) lk_head)) PC.lt) ?_)))
        refine if_dt ‹_› ?_
        refine if_tt (WA.and_nil (if_tt (WSs.assignP (fun _ _ _ => rfl) PL (by kernel_rfl) ?_)))
        refine Wn (Wn ?_)
        exact (iA2 rfl (by walk_at "lk") (iEAA (some x) (by (change _ = some (MV.str x.name)); walk_at "lk") (fun y hy => by cases hy; exact ⟨j, hx⟩) hp))
      · rw [decide_eq_false hlt] at hp
        refine Wl (by kernel_rfl) ?_
        refine WSs.assignP (fun _ _ _ => rfl) (PE.sub (PE.at PL ‹_› (lk_tail (by kernel_rfl) lk_head)) PL (PI.sdict (fun _ _ => rfl) ‹_› ‹_›)) (by kernel_rfl) ?_
        refine Wc (WS.ite (WT.bool (WA.and (PT.use (PT.plain (fun _ _ => rfl) (PE.at PL ‹_› (lk_tail (by kernel_rfl) (lk_tail (by kernel_rfl) lk_head)))) ?_))))
        refine if_tt (WA.and (WT.bool (WA.or (WT.cmp1 rfl (WE.lo ?_)))))
        refine WE.none (WC.isNS ?_)
        refine Wb (if_ff (WA.or (PT.use (PT.cmp1 rfl (PE.at PL ‹_› (lk_tail (by kernel_rfl) lk_head)) (PE.at (PE.sub (PE.at PL ‹_› (lk_tail (by kernel_rfl) lk_head)) PL (PI.sdict (fun _ _ => rfl) ‹_› ‹_›)) ‹_› (lk_tail (by kernel_rfl) lk_head)) PC.lt) ?_)))
        refine if_df ‹_› ?_
        refine WA.or_nil (if_ff (if_ff (Wn (Wn ?_))))
        exact (iA2 rfl (by walk_at "lk") (iEAA (some y) (by (change _ = some (MV.str y.name)); walk_at "lk") hfm hp))
 · rintro ρ' σ' ⟨es, hself, f, hf, hfm, hp⟩
   subst es
   refine ⟨ListAt.own hb', ?_⟩
   have e : pick l Option.none = f := by
    rw [<- hp, List.drop_eq_nil_of_le (by simp [ents])]
    rfl
   rw [e] at hq'
   refine WSs.retP PL ?_
   exact hq'
theorem turn_c {W d t k : Nat} {past : Int} {l : List Shr} {x : Shr} (h : WheelD σ W d t past l) (hz : l.length <= 1000000) (hk : l[k]? = some x) (hp : pick l Option.none = some x) (h0 : 1 <= x.share) (h1 : x.share <= 12)
 (hq : ∀ σ', WheelD σ' W d t x.clock (l.set k (dealt x)) -> Oth t σ σ' -> Q (.str x.name) σ') : WFn (cx w mean mg mb) ⟨n + 3, true, sc⟩ m_Wheel_turn [.ref W] ρ Q X σ := by
 have hW : σ W = some (t, .inst a_Wheel [("past", .int past), ("sharers", .ref d)]) := h.whl
 refine WFn.fn1 (p1 := "self") (FnAt.of1 (rfl : (Mine.hd.heap_39 w.params).lookup m_Wheel_turn = _) (by kernel_rfl) (fun _ => rfl) (by kernel_rfl)) ?_
 refine Wc (WS.assign (fun _ _ _ => rfl) (WE.mp PL ‹_› ms_Wheel_whose PN ?_))
 refine Wf (whose_c h hz fun b hb => ?_)
 have h' : WheelD (σ.put b t (.list ((ents l).map fun p => .str p.1))) W d t past l := h.keep (Kpt.new hb.none)
 have ho : Oth t σ (σ.put b t (.list ((ents l).map fun p => .str p.1))) := Oth.refl.new hb.none
 generalize σ.put b t (.list ((ents l).map fun p => .str p.1)) = σ1 at h' ho ⊢
 rw [hp]
 show WSt _ _ _ (.str x.name) _ _ _ _
 have hW' : σ1 W = some (t, .inst a_Wheel [("past", .int past), ("sharers", .ref d)]) := h'.whl
 have hd' := h'.dic
 have hxo : σ1 x.a = some (t, .inst a_Sharer [("share", .int x.share), ("clock", .int x.clock), ("ready", .bool x.ready)]) := h'.shr x (Mg hk)
 have hg : getK (ents l) x.name = some (.ref x.a) := getK_ents h.nn hk
 have hnn : (MV.str x.name).isNone = false := rfl
 refine Wl (by kernel_rfl) ?_
 refine Wc (WS.ite (WT.cmp1 rfl (WE.lo ?_)))
 refine WE.none (WC.isNS ?_)
 refine Wb (if_ff (Wn (WSs.assignP (fun _ _ _ => rfl) (PE.sub (PE.at PL ‹_› (lk_tail (by kernel_rfl) lk_head)) PL (PI.sdict (fun _ _ => rfl) ‹_› ‹_›)) (by kernel_rfl) ?_)))
 refine Wc (WS.setAttr (fun _ _ _ => rfl) (PE.use (PE.at PL ‹_› (lk_tail (by kernel_rfl) lk_head)) ?_))
 refine WE.lo ?_
 refine WSet.inst' (fs' := [("past", .int x.clock), ("sharers", .ref d)]) hW' (by kernel_rfl) (by kernel_rfl) (by simp) ?_
 have h2 : WheelD (σ1.put W t (.inst a_Wheel [("past", .int x.clock), ("sharers", .ref d)])) W d t x.clock l := h'.past
 have ho2 : Oth t σ (σ1.put W t (.inst a_Wheel [("past", .int x.clock), ("sharers", .ref d)])) := Oth.put ho hW'
 generalize σ1.put W t (.inst a_Wheel [("past", .int x.clock), ("sharers", .ref d)]) = σ2 at h2 ho2 ⊢
 have hxo2 : σ2 x.a = some (t, .inst a_Sharer [("share", .int x.share), ("clock", .int x.clock), ("ready", .bool x.ready)]) := h2.shr x (Mg hk)
 refine Wc (WS.augAttr ?_)
 refine WE.lo ?_
 refine WGet.inst ‹_› (by kernel_rfl) (lk_tail (by kernel_rfl) lk_head) (by with_unfolding_all rfl) ?_
 refine WE.cp g_step fn_step (Po (PE.at PL ‹_› lk_head) PN) ?_
 refine Wf (step_ok h0 h1 ?_)
 refine WI.add ?_
 refine WSet.inst' (fs' := [("share", .int x.share), ("clock", .int (x.clock + (27720 : Int).fdiv x.share)), ("ready", .bool x.ready)]) hxo2 (by kernel_rfl) (by kernel_rfl) (by simp) ?_
 refine WSs.retP PL ?_
 exact hq _ (h2.upd (y := dealt x) hk rfl rfl) (Oth.put ho2 hxo2)
theorem share_c {W d t k : Nat} {past : Int} {l : List Shr} {x : Shr} (h : WheelD σ W d t past l) (hk : l[k]? = some x) (hq : Q (.int x.share) σ) : WFn (cx w mean mg mb) ⟨n + 2, true, sc⟩ m_Wheel_share_of [.ref W, .str x.name] ρ Q X σ := by
 have hW : σ W = some (t, .inst a_Wheel [("past", .int past), ("sharers", .ref d)]) := h.whl
 have hx : σ x.a = some (t, .inst a_Sharer [("share", .int x.share), ("clock", .int x.clock), ("ready", .bool x.ready)]) := h.shr x (Mg hk)
 refine WFn.fn2 (p1 := "self") (p2 := "name") (FnAt.of2 (rfl : (Mine.hd.heap_39 w.params).lookup m_Wheel_share_of = _) (by kernel_rfl) (fun _ _ => rfl) (by kernel_rfl)) ?_
 refine Wc (WS.ret (WE.attr (fun _ _ => rfl) (WE.mp PL ‹_› ms_Wheel_need (Po PL PN) ?_)))
 refine Wf (need_c h hk ?_)
 refine WGet.inst ‹_› (by kernel_rfl) lk_head (by with_unfolding_all rfl) ?_
 exact hq
theorem names_c (t' : Nat) {W d t : Nat} {past : Int} {l : List Shr} (h : WheelD σ W d t past l) (hz : l.length <= 1000000) (hq : ∀ b, Fresh σ b -> Q (.ref b) (σ.put b t' (.list ((l.map (·.name)).map .str)))) : WFn (cx w mean mg mb) ⟨n + 1, true, sc⟩ m_Wheel_names [.ref W] ρ Q X σ := by
 have hW : σ W = some (t, .inst a_Wheel [("past", .int past), ("sharers", .ref d)]) := h.whl
 refine WFn.fn1 (p1 := "self") (FnAt.of1 (rfl : (Mine.hd.heap_39 w.params).lookup m_Wheel_names = _) (by kernel_rfl) (fun _ => rfl) (by kernel_rfl)) ?_
 refine Wc (WS.ret (WE.callP (by kernel_rfl) g_list (Callee.con rfl) (Po (PE.at PL ‹_› (lk_tail (by kernel_rfl) lk_head)) PN) rfl ?_))
 refine WCall.listKeys t' rfl h.dic (by simpa [ents] using hz) fun b hb => ?_
 have e : (ents l).map (fun p => MV.str p.1) = (l.map (·.name)).map .str := by simp [ents]
 rw [e]
 exact hq b hb
theorem delK_ents {l : List Shr} {k : Nat} {x : Shr} (nd : (l.map (·.name)).Nodup) (hk : l[k]? = some x) : delK (ents l) x.name = ents (l.eraseIdx k) := by
 unfold delK ents
 induction l generalizing k with
 | nil => simp at hk
 | cons y l ih =>
  simp only [List.map_cons, List.nodup_cons] at nd
  cases k with
  | zero =>
   simp at hk; subst hk
   simp only [List.map_cons, List.eraseIdx_cons_zero]
   rw [List.filter_cons_of_neg (by simp)]
   refine List.filter_eq_self.mpr fun p hp => ?_
   refine eEA (Mm hp) fun z hz z1' => ?_; subst z1'
   simp only [ne_eq, decide_eq_true_eq]
   exact fun q => nd.1 (Mn (iEA z hz q))
  | succ k =>
   simp only [List.getElem?_cons_succ] at hk
   simp only [List.map_cons, List.eraseIdx_cons_succ]
   rw [List.filter_cons_of_pos, ih nd.2 hk]
   simp only [ne_eq, decide_eq_true_eq]
   exact fun q => nd.1 (q ▸ Mn (iEA x (Mg hk) rfl))
theorem WheelD.leave {σ : Hp} {W d t : Nat} {past : Int} {l : List Shr} (h : WheelD σ W d t past l) (k : Nat) : WheelD (σ.put d t (.sdict (ents (l.eraseIdx k)))) W d t past (l.eraseIdx k) where
 whl := Hp.ne (fun q => by have := h.dic; rw [<- q, h.whl] at this; simp [wObj] at this) h.whl
 dic := Hp.self
 shr := fun z hz => Hp.ne (fun q => by have := h.dic; rw [<- q, h.shr z (List.mem_of_mem_eraseIdx hz)] at this; simp [Shr.obj] at this) (h.shr z (List.mem_of_mem_eraseIdx hz))
 nn := List.Nodup.sublist (List.Sublist.map _ (List.eraseIdx_sublist l k)) h.nn
 na := List.Nodup.sublist (List.Sublist.map _ (List.eraseIdx_sublist l k)) h.na
theorem leave_c {W d t k : Nat} {past : Int} {l : List Shr} {x : Shr} (h : WheelD σ W d t past l) (hz : l.length <= 1000000) (hk : l[k]? = some x) (hq : ∀ σ', WheelD σ' W d t past (l.eraseIdx k) -> Oth t σ σ' -> Q .none σ') :
 WFn (cx w mean mg mb) ⟨n + 2, true, sc⟩ m_Wheel_leave [.ref W, .str x.name] ρ Q X σ := by
 have hW : σ W = some (t, .inst a_Wheel [("past", .int past), ("sharers", .ref d)]) := h.whl
 refine WFn.fn2 (p1 := "self") (p2 := "name") (FnAt.of2 (rfl : (Mine.hd.heap_39 w.params).lookup m_Wheel_leave = _) (by kernel_rfl) (fun _ _ => rfl) (by kernel_rfl)) ?_
 refine Wc (WS.expr (fun _ _ _ => rfl) (WE.mp PL ‹_› ms_Wheel_need (Po PL PN) ?_))
 refine Wf (need_c h hk ?_)
 refine Wc (WS.expr (fun _ _ _ => rfl) (WE.method (fun _ _ => rfl) rfl rfl rfl (PE.use (PE.at PL ‹_› (lk_tail (by kernel_rfl) lk_head)) ?_)))
 refine WM.dictPop h.dic ?_
 refine And.intro (Callee.con rfl) (PEs.use (Po PL PN) ?_)
 refine WCall.dictPop h.dic (by simpa [ents] using hz) (getK_ents h.nn hk) ?_
 rw [delK_ents h.nn hk]
 refine Wn ?_
 exact hq _ (h.leave k) (Oth.put Oth.refl h.dic)
def shared (past share : Int) (x : Shr) : Shr := { x with share := share, clock := if past < x.clock then past + ((x.clock - past) * (27720 : Int).fdiv share).fdiv ((27720 : Int).fdiv x.share) else x.clock }
theorem stepB {k : Int} (h0 : 1 <= k) (h1 : k <= 12) : 2310 <= (27720 : Int).fdiv k /\ (27720 : Int).fdiv k <= 27720 := by
 rw [Int.fdiv_eq_ediv_of_nonneg _ (le0 h0)]
 exact ⟨(Int.le_ediv_iff_mul_le (lt0 h0)).mpr (Int.le_trans (Int.mul_le_mul_of_nonneg_left h1 (by decide)) (by decide)), Int.ediv_le_self _ (by decide)⟩
theorem sh_lo (a : Int) : 1 <= 1 + a.fmod 12 := Int.le_add_of_nonneg_right (fmod_ge a (by decide))
theorem sh_hi (a : Int) : 1 + a.fmod 12 <= 12 := by rw [Int.add_comm]; exact Int.add_one_le_of_lt (fmod_lt a (by decide))
theorem stepMul {a k : Int} (h0 : 1 <= k) (h1 : k <= 12) : IntMulOk a ((27720 : Int).fdiv k) :=
 IntMulOk.of_right (intBits_le_iff.mpr (by have := stepB h0 h1; omega))
theorem reshare_c {W d t k : Nat} {past share : Int} {l : List Shr} {x : Shr} (h : WheelD σ W d t past l) (hk : l[k]? = some x) (h0 : 1 <= share) (h1 : share <= 12) (g0 : 1 <= x.share) (g1 : x.share <= 12)
 (hq : ∀ σ', WheelD σ' W d t past (l.set k (shared past share x)) -> Oth t σ σ' -> Q .none σ') : WFn (cx w mean mg mb) ⟨n + 3, true, sc⟩ m_Wheel_reshare [.ref W, .str x.name, .int share] ρ Q X σ := by
 have hW : σ W = some (t, .inst a_Wheel [("past", .int past), ("sharers", .ref d)]) := h.whl
 have hx : σ x.a = some (t, .inst a_Sharer [("share", .int x.share), ("clock", .int x.clock), ("ready", .bool x.ready)]) := h.shr x (Mg hk)
 have z0 : (27720 : Int).fdiv x.share ≠ 0 := by have := stepB g0 g1; omega
 have z1 : ((27720 : Int).fdiv x.share).natAbs < 1073741824 := by have := stepB g0 g1; omega
 refine WFn.fn3 (p1 := "self") (p2 := "name") (p3 := "share") (FnAt.of3 (rfl : (Mine.hd.heap_39 w.params).lookup m_Wheel_reshare = _) (by kernel_rfl) (fun _ _ _ => rfl) (by kernel_rfl)) ?_
 refine Wc (WS.assign (fun _ _ _ => rfl) (WE.mp PL ‹_› ms_Wheel_need (Po PL PN) ?_))
 refine Wf (need_c h hk ?_)
 refine Wl (by kernel_rfl) ?_
 refine Wc (WS.assign (fun _ _ _ => rfl) (WE.cp g_step fn_step (Po PL PN) ?_))
 refine Wf (step_ok h0 h1 ?_)
 by_cases hlt : past < x.clock
 · skip
   refine Wl (by kernel_rfl) ?_
   refine WSs.thenP (PT.cmp1 rfl (PE.at PL ‹_› (lk_tail (by kernel_rfl) lk_head)) (PE.at PL ‹_› lk_head) PC.gt) (decide_eq_true ‹_›) ?_
   refine Wc (WS.setAttr (fun _ _ _ => rfl) (WE.binop (PE.use (PE.at PL ‹_› lk_head) ?_)))
   refine WE.binop (WE.binop (PE.use (PE.binop (PE.at PL ‹_› (lk_tail (by kernel_rfl) lk_head)) (PE.at PL ‹_› lk_head) PB.sub) ?_))
   refine WE.lo ?_
   refine WB.mul (stepMul h0 h1) ?_
   refine WE.cp g_step fn_step (Po (PE.at PL ‹_› lk_head) PN) ?_
   refine Wf (step_ok g0 g1 ?_)
   refine WB.div (by with_reducible assumption) (by with_reducible assumption) ?_
   refine WB.add ?_
   refine WE.lo ?_
   refine WSet.inst' (fs' := [("share", .int x.share), ("clock", .int (past + ((x.clock - past) * (27720 : Int).fdiv share).fdiv ((27720 : Int).fdiv x.share))), ("ready", .bool x.ready)]) hx (by kernel_rfl) (by kernel_rfl) (by simp) ?_
   refine Wn (Wc (WS.setAttr (fun _ _ _ => rfl) (WE.lo ?_)))
   refine WE.lo ?_
   refine WSet.inst' (fs' := [("share", .int share), ("clock", .int (past + ((x.clock - past) * (27720 : Int).fdiv share).fdiv ((27720 : Int).fdiv x.share))), ("ready", .bool x.ready)]) Hp.self (by kernel_rfl) (by kernel_rfl) (by simp) ?_
   refine Wn ?_
   rw [Hp.put_put]
   have h2 := h.upd (y := shared past share x) hk rfl rfl
   have e : (shared past share x).obj = .inst a_Sharer [("share", .int share), ("clock", .int (past + ((x.clock - past) * (27720 : Int).fdiv share).fdiv ((27720 : Int).fdiv x.share))), ("ready", .bool x.ready)] := by simp [shared, hlt, Shr.obj]
   rw [e] at h2
   exact hq _ h2 (Oth.put Oth.refl hx)
 · skip
   refine Wl (by kernel_rfl) ?_
   refine WSs.skipP (PT.cmp1 rfl (PE.at PL ‹_› (lk_tail (by kernel_rfl) lk_head)) (PE.at PL ‹_› lk_head) PC.gt) (decide_eq_false ‹_›) ?_
   refine Wc (WS.setAttr (fun _ _ _ => rfl) (WE.lo ?_))
   refine WE.lo ?_
   refine WSet.inst' (fs' := [("share", .int share), ("clock", .int x.clock), ("ready", .bool x.ready)]) hx (by kernel_rfl) (by kernel_rfl) (by simp) ?_
   refine Wn ?_
   have h2 := h.upd (y := shared past share x) hk rfl rfl
   have e : (shared past share x).obj = .inst a_Sharer [("share", .int share), ("clock", .int x.clock), ("ready", .bool x.ready)] := by simp [shared, hlt, Shr.obj]
   rw [e] at h2
   exact hq _ h2 (Oth.put Oth.refl hx)
theorem turn_none_c {W d t : Nat} {past : Int} {l : List Shr} (h : WheelD σ W d t past l) (hz : l.length <= 1000000) (hp : pick l Option.none = Option.none)
 (hq : ∀ σ', WheelD σ' W d t past l -> Oth t σ σ' -> Q .none σ') : WFn (cx w mean mg mb) ⟨n + 3, true, sc⟩ m_Wheel_turn [.ref W] ρ Q X σ := by
 have hW : σ W = some (t, .inst a_Wheel [("past", .int past), ("sharers", .ref d)]) := h.whl
 refine WFn.fn1 (p1 := "self") (FnAt.of1 (rfl : (Mine.hd.heap_39 w.params).lookup m_Wheel_turn = _) (by kernel_rfl) (fun _ => rfl) (by kernel_rfl)) ?_
 refine Wc (WS.assign (fun _ _ _ => rfl) (WE.mp PL ‹_› ms_Wheel_whose PN ?_))
 refine Wf (whose_c h hz fun b hb => ?_)
 rw [hp]
 show WSt _ _ _ .none _ _ _ _
 refine Wl (by kernel_rfl) ?_
 refine Wc (WS.ite (WT.cmp1 rfl (WE.lo ?_)))
 refine WE.none (WC.isNN ?_)
 refine Wb (if_tt (WSs.retP PE.none ?_))
 exact hq _ (h.keep (Kpt.new hb.none)) (Oth.refl.new hb.none)
/-- no share -/
def NoShare (w : World) (mean : ExcName -> Option Value) (mg mb : Str -> Option Value) (σ : Hp) (v : MV) : Prop := ∀ (Q' : MV -> Hp -> Prop) (X' : EX) (ρ' : Lo) (sc' : Scope) (m : Nat), Q' (.bool false) σ -> WFn (cx w mean mg mb) ⟨m + 1, true, sc'⟩ a_is_whole [v, .int 1, .int 12] ρ' Q' X' σ
theorem NoShare.int {k : Int} (h : ¬ (1 <= k /\ k <= 12)) : NoShare w mean mg mb σ (.int k) := fun _ _ _ _ _ hq => is_whole_int (by
 have e : (decide (1 <= k) && decide (k <= 12)) = false := by rw [<- Bool.decide_and]; exact decide_eq_false h
 rw [e]; exact hq)
theorem step_bad {v : MV} (hw : NoShare w mean mg mb σ v) (hx : ∀ e, X false a_BadShare e σ) : WFn (cx w mean mg mb) ⟨n + 2, true, sc⟩ a_step [v] ρ Q X σ := by
 refine WFn.fn1X (p1 := "share") (FnAt.of1 (rfl : (Mine.hd.heap_39 w.params).lookup a_step = _) (by kernel_rfl) (fun _ => rfl) (by kernel_rfl)) ?_
 refine Wc (WS.ite (WT.not (WT.plain (fun _ _ => rfl) (WE.cp g_is_whole fn_is_whole (Po PL (Po PE.int (Po (PE.globalA (by kernel_rfl) g_MOST) PN))) ?_))))
 refine Wf (hw _ _ _ _ _ ?_)
 refine Wb (if_nf ?_)
 refine Wc (WS.raise rfl (by kernel_rfl) g_BadShare (by kernel_rfl) PySem.F.excBase_ValueError PySem.F.excBase_ValueError (by kernel_rfl) rfl ?_)
 refine WE.str ?_
 exact hx
theorem reshare_bad {W d t k : Nat} {past : Int} {l : List Shr} {x : Shr} {v : MV} (h : WheelD σ W d t past l) (hk : l[k]? = some x) (hw : NoShare w mean mg mb σ v) (hx : ∀ e, X false a_BadShare e σ) : WFn (cx w mean mg mb) ⟨n + 3, true, sc⟩ m_Wheel_reshare [.ref W, .str x.name, v] ρ Q X σ := by
 have hW : σ W = some (t, .inst a_Wheel [("past", .int past), ("sharers", .ref d)]) := h.whl
 refine WFn.fn3X (p1 := "self") (p2 := "name") (p3 := "share") (FnAt.of3 (rfl : (Mine.hd.heap_39 w.params).lookup m_Wheel_reshare = _) (by kernel_rfl) (fun _ _ _ => rfl) (by kernel_rfl)) ?_
 refine Wc (WS.assign (fun _ _ _ => rfl) (WE.mp PL ‹_› ms_Wheel_need (Po PL PN) ?_))
 refine Wf (need_c h hk ?_)
 refine Wl (by kernel_rfl) ?_
 refine Wc (WS.assign (fun _ _ _ => rfl) (WE.cp g_step fn_step (Po PL PN) ?_))
 refine Wf (step_bad hw fun e => ?_)
 exact hx e
abbrev Extd (σ σ' : Hp) : Prop := ∀ a p, σ a = some p -> σ' a = some p
def core (x : Shr) : Str × Int × Int × Bool := (x.name, x.share, x.clock, x.ready)
theorem core_name {l l' : List Shr} (h : l'.map core = l.map core) : l'.map (·.name) = l.map (·.name) := by
 have := congrArg (List.map (·.1)) h
 rw [List.map_map, List.map_map] at this
 exact this
theorem make_wheelF (t : Nat) (h : ∀ W d σ', σ W = Option.none -> σ d = Option.none -> WheelD σ' W d t 0 [] -> Extd σ σ' -> Q (.ref W) σ') :
 WFn (cx w mean mg mb) ⟨n + 2, true, sc⟩ a_Wheel [] ρ Q X σ := by
 refine WFn.make t mi_Wheel fun b hb hbn => ?_
 refine WFn.fn1 (p1 := "self") (FnAt.of1 (rfl : (Mine.hd.heap_39 w.params).lookup m_Wheel_init = _) (by kernel_rfl) (fun _ => rfl) (by kernel_rfl)) ?_
 refine Wc (WS.setAttr (fun _ _ _ => rfl) (WE.int (WE.lo ?_)))
 refine WSet.inst' (fs' := [("past", .int 0)]) Hp.self (by kernel_rfl) (by kernel_rfl) (by simp) ?_
 refine Wc (WS.setAttr (fun _ _ _ => rfl) (WE.sdict t fun d hd => ?_))
 refine WE.lo ?_
 have hne : b ≠ d := fun q => by
  have := hd b _ Hp.self
  omega
 refine WSet.inst' (fs' := [("past", .int 0), ("sharers", .ref d)]) (Hp.ne hne Hp.self) (by kernel_rfl) (by kernel_rfl) (by simp) ?_
 refine Wn (⟨rfl, ?_⟩)
 rw [Hp.put_put] at hd
 have hdn : σ d = Option.none := by
  cases e : σ d with
  | none => rfl
  | some p =>
   have q : (σ.put b t (.inst a_Wheel [("past", .int 0)])) d = some p := Hp.new hbn e
   have q' := hd.none
   rw [q] at q'
   exact nomatch q'
 refine h b d _ hbn hdn ⟨Hp.self, Hp.ne (Ne.symm hne) Hp.self, (fun x hx => nomatch hx), List.nodup_nil, List.nodup_nil⟩ fun a p e => ?_
 have e1 : (σ.put b t (.inst a_Wheel [("past", .int 0)])) a = some p := Hp.new hbn e
 have e2 : a ≠ b := fun q => by rw [q, hbn] at e; exact nomatch e
 exact Hp.ne e2 (by rw [Hp.put_put]; exact Hp.new hd.none e1)
theorem Extd.put {σ σ' : Hp} {b t : Nat} {o : MO} (h : Extd σ σ') (hb : σ b = Option.none) : Extd σ (σ'.put b t o) := fun a p e => Hp.ne (fun q => by rw [q, hb] at e; exact nomatch e) (h a p e)
theorem Extd.new {σ σ' : Hp} {b t : Nat} {o : MO} (h : Extd σ σ') (hb : σ' b = Option.none) : Extd σ (σ'.put b t o) := fun a p e => Hp.new hb (h a p e)
theorem copied_c (t' : Nat) {W d t : Nat} {past : Int} {l : List Shr} (h : WheelD σ W d t past l) (hz : l.length <= 1000000)
 (hq : ∀ W' d' l' σ', σ W' = Option.none -> WheelD σ' W' d' t' past l' -> l'.map core = l.map core -> Extd σ σ' -> Q (.ref W') σ') : WFn (cx w mean mg mb) ⟨n + 3, true, sc⟩ m_Wheel_copied [.ref W] ρ Q X σ := by
 have hW : σ W = some (t, .inst a_Wheel [("past", .int past), ("sharers", .ref d)]) := h.whl
 have hd := h.dic
 refine WFn.fn1 (p1 := "self") (FnAt.of1 (rfl : (Mine.hd.heap_39 w.params).lookup m_Wheel_copied = _) (by kernel_rfl) (fun _ => rfl) (by kernel_rfl)) ?_
 refine Wc (WS.assign (fun _ _ _ => rfl) (WE.callP (by kernel_rfl) g_Wheel (Callee.cls mi_Wheel) PN rfl ?_))
 refine Wf (make_wheelF t' fun W' d' σ1 n1 n2 hw1 e1 => ?_)
 have hW1 := e1 _ _ hW
 have hV1 : σ1 W' = some (t', .inst a_Wheel [("past", .int 0), ("sharers", .ref d')]) := hw1.whl
 refine Wl (by kernel_rfl) ?_
 refine Wc (WS.setAttr (fun _ _ _ => rfl) (PE.use (PE.at PL ‹_› lk_head) ?_))
 refine WE.lo ?_
 refine WSet.inst' (fs' := [("past", .int past), ("sharers", .ref d')]) hV1 (by kernel_rfl) (by kernel_rfl) (by simp) ?_
 have hw2 := hw1.past (past' := past)
 have e2 : Extd σ (σ1.put W' t' (wObj past d')) := e1.put n1
 change WSs _ _ _ _ _ _ (σ1.put W' t' (wObj past d'))
 generalize σ1.put W' t' (wObj past d') = σ2 at hw2 e2 ⊢
 have hW2 := e2 _ _ hW
 have hd2 := e2 _ _ hd
 refine Wc (WS.for rfl (fun _ _ => rfl) ?_)
 refine WE.callP (by kernel_rfl) g_list (Callee.con rfl) (Po (PE.at PL ‹_› (lk_tail (by kernel_rfl) lk_head)) PN) rfl ?_
 refine WCall.listKeys (t' + 1) rfl hd2 (by simpa [ents] using hz) fun b hb => ?_
 refine (iEEA _ _ (Iterable.list (ListAt.own Hp.self)) ?_)
 refine WFor.byIdx (fun j ρ' σ' => (∃ l', WheelD σ' W' d' t' past l' /\ l'.map core = (l.take j).map core) /\ Extd σ σ' /\ σ' b = some (t' + 1, .list ((ents l).map fun p => .str p.1)) /\ ρ' "self" = some (.ref W) /\ ρ' "found" = some (.ref W')) ?_ ?_ ?_
 · exact (iA4 (iEA ([]) (hw2.keep (Kpt.new hb.none)) rfl) (e2.new hb.none) Hp.self (by walk_at "lk") (by walk_at "lk"))
 · rintro j v ρ' σ' hv ⟨⟨l', hw, hc⟩, e, hb', r0, r1⟩
   have hx : ∃ x, l[j]? = some x /\ v = .str x.name := by
    simp only [ents, List.map_map, List.getElem?_map] at hv
    cases q : l[j]? with
    | none => rw [q] at hv; exact nomatch hv
    | some x => rw [q] at hv; exact (iEA x rfl ((Oi hv).symm))
   refine eEA hx fun x z2' z1' => ?_; clear hx; have hx := z2'; clear z2'; subst z1'
   have hxo : σ' x.a = some (t, .inst a_Sharer [("share", .int x.share), ("clock", .int x.clock), ("ready", .bool x.ready)]) := e _ _ (h.shr x (Mg hx))
   have hg : getK (ents l) x.name = some (.ref x.a) := getK_ents h.nn hx
   have hW3 := e _ _ hW
   have hd3 := e _ _ hd
   have hV3 : σ' W' = some (t', .inst a_Wheel [("past", .int past), ("sharers", .ref d')]) := hw.whl
   have hD3 := hw.dic
   have hlt : j < l.length := (Gs hx).1
   have hl' : l'.length <= j := by have := congrArg List.length hc; rw [List.length_map, List.length_map] at this; rw [this]; exact List.length_take_le ..
   have hn : x.name ∉ l'.map (·.name) := by
    rw [core_name hc]
    intro q
    refine eEA (Mm q) fun y hy e' => ?_
    obtain ⟨i, hi⟩ := Mi hy
    have hij : i < j := by
     have := (Gs hi).1
     exact Nat.lt_of_lt_of_le this (List.length_take_le ..)
    rw [List.getElem?_take, if_pos hij] at hi
    exact Nat.ne_of_lt hij (nodup_at h.nn hi hx e')
   refine ⟨ListAt.own hb', ?_⟩
   refine Wl (by kernel_rfl) ?_
   refine WSs.assignP (fun _ _ _ => rfl) (PE.sub (PE.at PL ‹_› (lk_tail (by kernel_rfl) lk_head)) PL (PI.sdict (fun _ _ => rfl) ‹_› ‹_›)) (by kernel_rfl) ?_
   refine Wc (WS.setItem (fun _ _ _ => rfl) (WE.callP (by kernel_rfl) g_Sharer (Callee.cls mi_Sharer) (Po (PE.at PL ‹_› lk_head) (Po (PE.at PL ‹_› (lk_tail (by kernel_rfl) lk_head)) (Po (PE.at PL ‹_› (lk_tail (by kernel_rfl) (lk_tail (by kernel_rfl) lk_head))) PN))) rfl ?_))
   refine Wf (make_sharer t' fun a ha => ?_)
   refine PE.use (PE.at PL (Hp.new (Fresh.none ‹_›) ‹_›) (lk_tail (by kernel_rfl) lk_head)) ?_
   refine WE.lo ?_
   refine WPut.sdict (Hp.new (Fresh.none ‹_›) ‹_›) (by simp [ents]; omega) ?_
   refine Wn ?_
   rw [putK_out hn]
   have hw' := WheelD.enter hw (y := { x with a := a }) ha.none hn
   have ee : ents (l' ++ [{ x with a := a }]) = ents l' ++ [(x.name, .ref a)] := by simp [ents]
   rw [ee] at hw'
   exact (iA4 (iEA _ hw' (by rw [List.map_append, hc, List.take_add_one, hx, List.map_append]; rfl)) ((e.new ha.none).put n2) (Hp.tag (Hp.new ha.none hD3) (by omega) (Hp.new ha.none hb')) (by walk_at "lk") (by walk_at "lk"))
 · rintro ρ' σ' ⟨⟨l', hw, hc⟩, e, hb', r0, r1⟩
   refine ⟨ListAt.own hb', ?_⟩
   refine WSs.retP PL ?_
   exact hq W' d' l' σ' n1 hw (by rw [hc, List.take_of_length_le (by simp [ents])]) e
structure Team where
 name : Str
 W : Nat
 d : Nat
 g : Nat
 past : Int
 l : List Shr
def tents (tm : List Team) : List (Str × MV) := tm.map fun t => (t.name, .ref t.W)
def aents (ab : List (Str × Str)) : List (Str × MV) := ab.map fun p => (p.1, .str p.2)
theorem getK_mem {es : List (Str × MV)} {k : Str} {v : MV} (nd : (es.map (·.1)).Nodup) (h : (k, v) ∈ es) : getK es k = some v := by
 induction es with
 | nil => exact nomatch h
 | cons p es ih =>
  rw [List.map_cons, List.nodup_cons] at nd
  unfold getK
  rw [List.find?_cons]
  rcases List.mem_cons.mp h with q | q
  · subst q; simp
  · have hne : p.1 ≠ k := fun e => nd.1 (by rw [e]; exact Mn (iEA _ q rfl))
    rw [decide_eq_false hne]
    exact ih nd.2 q
theorem getK_no {es : List (Str × MV)} {k : Str} (h : k ∉ es.map (·.1)) : getK es k = Option.none := by
 unfold getK
 rw [List.find?_eq_none.mpr]
 · rfl
 · intro p hp
   simp only [decide_eq_true_eq]
   exact fun q => h (Mn (iEA p hp q))
theorem putK_no {es : List (Str × MV)} {k : Str} {v : MV} (h : k ∉ es.map (·.1)) : putK es k v = es ++ [(k, v)] := by
 unfold putK
 rw [if_neg]
 simp only [Bool.not_eq_true, List.any_eq_false, decide_eq_true_eq]
 exact fun p hp q => h (Mn (iEA p hp q))
structure HouseD (σ : Hp) (H dw da : Nat) (tm : List Team) (ab : List (Str × Str)) : Prop where
 hou : σ H = some (1, .inst a_House [("wheels", .ref dw), ("above", .ref da)])
 dws : σ dw = some (1, .sdict (tents tm))
 das : σ da = some (1, .sdict (aents ab))
 whl : ∀ t ∈ tm, WheelD σ t.W t.d t.g t.past t.l
 tn : (tm.map (·.name)).Nodup
 tg : (tm.map (·.g)).Nodup
 gg : ∀ t ∈ tm, 100 <= t.g
 an : (ab.map (·.1)).Nodup
 dd : dw ≠ da
/-- what a house's deed may change: its own things and the wheels -/
def KpH (σ σ' : Hp) : Prop := ∀ a t o, σ a = some (t, o) -> t ≠ 1 -> t < 100 -> σ' a = some (t, o)
theorem HouseD.keep {σ σ' : Hp} {H dw da : Nat} {tm : List Team} {ab : List (Str × Str)} (h : HouseD σ H dw da tm ab) (k1 : ∀ {a o}, σ a = some (1, o) -> σ' a = some (1, o)) (k : ∀ {a t o}, σ a = some (t, o) -> 100 <= t -> σ' a = some (t, o)) : HouseD σ' H dw da tm ab :=
 ⟨k1 h.hou, k1 h.dws, k1 h.das, fun t ht => (h.whl t ht).keep ⟨fun a o e => k e (h.gg t ht)⟩, h.tn, h.tg, h.gg, h.an, h.dd⟩
theorem tents_names (tm : List Team) : (tents tm).map (·.1) = tm.map (·.name) := by unfold tents; rw [List.map_map]; rfl
theorem aents_names (ab : List (Str × Str)) : (aents ab).map (·.1) = ab.map (·.1) := by unfold aents; rw [List.map_map]; rfl
theorem getK_team {σ : Hp} {H dw da : Nat} {tm : List Team} {ab : List (Str × Str)} (h : HouseD σ H dw da tm ab) {t : Team} (ht : t ∈ tm) : getK (tents tm) t.name = some (.ref t.W) :=
 getK_mem (by rw [tents_names]; exact h.tn) (Mn (iEA t ht rfl))
theorem getK_noteam {tm : List Team} {nm : Str} (h : nm ∉ tm.map (·.name)) : getK (tents tm) nm = Option.none := getK_no (by rw [tents_names]; exact h)
theorem getK_above {σ : Hp} {H dw da : Nat} {tm : List Team} {ab : List (Str × Str)} (h : HouseD σ H dw da tm ab) {nm up : Str} (ht : (nm, up) ∈ ab) : getK (aents ab) nm = some (.str up) :=
 getK_mem (by rw [aents_names]; exact h.an) (Mn (iEA _ ht rfl))
theorem getK_noabove {ab : List (Str × Str)} {nm : Str} (h : nm ∉ ab.map (·.1)) : getK (aents ab) nm = Option.none := getK_no (by rw [aents_names]; exact h)
/-- one wheel has changed -/
theorem HouseD.one {σ σ' : Hp} {H dw da k : Nat} {tm : List Team} {ab : List (Str × Str)} {t t' : Team} (h : HouseD σ H dw da tm ab) (hk : tm[k]? = some t) (hn : t'.name = t.name) (hW : t'.W = t.W) (hg : t'.g = t.g) (hw : WheelD σ' t'.W t'.d t'.g t'.past t'.l) (o : Oth t.g σ σ') : HouseD σ' H dw da (tm.set k t') ab := by
 have g1 : 1 ≠ t.g := by have := h.gg t (Mg hk); omega
 refine ⟨o.at h.hou g1, ?_, o.at h.das g1, fun u hu => ?_, ?_, ?_, fun u hu => ?_, h.an, h.dd⟩
 · have : tents (tm.set k t') = tents tm := map_set_same _ hk (by rw [hn, hW])
   rw [this]; exact o.at h.dws g1
 · rcases mem_set_or hu with rfl | ⟨j, hj, hju⟩
   · exact hw
   · refine (h.whl u (Mg hju)).keep (o.kpt fun q => hj ?_)
     exact nodup_at h.tg hju hk q
 · rw [map_set_same (·.name) hk hn]; exact h.tn
 · rw [map_set_same (·.g) hk hg]; exact h.tg
 · rcases mem_set_or hu with rfl | ⟨j, _, hju⟩
   · rw [hg]; exact h.gg t (Mg hk)
   · exact h.gg u (Mg hju)
theorem hneed_c {H dw da : Nat} {tm : List Team} {ab : List (Str × Str)} {nm up : Str} (h : HouseD σ H dw da tm ab) (hm : (nm, up) ∈ ab) (hq : Q (.str up) σ) : WFn (cx w mean mg mb) ⟨n + 1, true, sc⟩ m_House_need [.ref H, .str nm] ρ Q X σ := by
 have hH := h.hou
 have hd := h.das
 have hg := getK_above h hm
 refine WFn.fn2 (p1 := "self") (p2 := "name") (FnAt.of2 (rfl : (Mine.hd.heap_39 w.params).lookup m_House_need = _) (by kernel_rfl) (fun _ _ => rfl) (by kernel_rfl)) ?_
 refine Wc (WS.ite (WT.bool (WA.or (WT.not (WT.plain (fun _ _ => rfl) (WE.callP (by kernel_rfl) g_isinstance (Callee.con rfl) (Po PL (Po (PE.globalA (by kernel_rfl) g_str) PN)) rfl ?_))))))
 refine WCall.isinstance KindOf.str k_str_str ?_
 refine Wb (if_nt ?_)
 refine WA.or (WT.cmp1 rfl (WE.lo ?_))
 refine PE.use (PE.at PL ‹_› (lk_tail (by kernel_rfl) lk_head)) ?_
 refine WC.notInS_t ‹_› ‹_› ?_
 refine Wb (if_ff (WA.or_nil (if_ff (Wn (WSs.retP (PE.sub (PE.at PL ‹_› (lk_tail (by kernel_rfl) lk_head)) PL (PI.sdict (fun _ _ => rfl) ‹_› ‹_›)) ?_)))))
 exact hq
theorem hneed_no {H dw da : Nat} {tm : List Team} {ab : List (Str × Str)} {nm : Str} (h : HouseD σ H dw da tm ab) (hm : nm ∉ ab.map (·.1)) (hx : ∀ e, X false a_NoName e σ) : WFn (cx w mean mg mb) ⟨n + 1, true, sc⟩ m_House_need [.ref H, .str nm] ρ Q X σ := by
 have hH := h.hou
 have hd := h.das
 have hg := getK_noabove hm
 refine WFn.fn2X (p1 := "self") (p2 := "name") (FnAt.of2 (rfl : (Mine.hd.heap_39 w.params).lookup m_House_need = _) (by kernel_rfl) (fun _ _ => rfl) (by kernel_rfl)) ?_
 refine Wc (WS.ite (WT.bool (WA.or (WT.not (WT.plain (fun _ _ => rfl) (WE.callP (by kernel_rfl) g_isinstance (Callee.con rfl) (Po PL (Po (PE.globalA (by kernel_rfl) g_str) PN)) rfl ?_))))))
 refine WCall.isinstance KindOf.str k_str_str ?_
 refine Wb (if_nt ?_)
 refine WA.or (WT.cmp1 rfl (WE.lo ?_))
 refine PE.use (PE.at PL ‹_› (lk_tail (by kernel_rfl) lk_head)) ?_
 refine WC.notInS_f ‹_› ‹_› ?_
 refine Wb (if_tt (if_tt (Wc (WS.raise rfl (by kernel_rfl) g_NoName (by kernel_rfl) PySem.F.excBase_ValueError PySem.F.excBase_ValueError (by kernel_rfl) rfl ?_))))
 refine WE.str ?_
 exact hx
theorem hneed_odd {H : Nat} {v : MV} {t : Value} (kd : KindOf σ v t) (ks : kitOne (cx w mean mg mb).K t (.type "str") = some false) (hx : ∀ e, X false a_NoName e σ) : WFn (cx w mean mg mb) ⟨n + 1, true, sc⟩ m_House_need [.ref H, v] ρ Q X σ := by
 refine WFn.fn2X (p1 := "self") (p2 := "name") (FnAt.of2 (rfl : (Mine.hd.heap_39 w.params).lookup m_House_need = _) (by kernel_rfl) (fun _ _ => rfl) (by kernel_rfl)) ?_
 refine Wc (WS.ite (WT.bool (WA.or (WT.not (WT.plain (fun _ _ => rfl) (WE.callP (by kernel_rfl) g_isinstance (Callee.con rfl) (Po PL (Po (PE.globalA (by kernel_rfl) g_str) PN)) rfl ?_))))))
 refine WCall.isinstance ‹_› (by with_reducible assumption) ?_
 refine Wb (if_nf ?_)
 refine if_tt (Wc (WS.raise rfl (by kernel_rfl) g_NoName (by kernel_rfl) PySem.F.excBase_ValueError PySem.F.excBase_ValueError (by kernel_rfl) rfl ?_))
 refine WE.str ?_
 exact hx
theorem is_team_yes {H dw da : Nat} {tm : List Team} {ab : List (Str × Str)} {t : Team} (h : HouseD σ H dw da tm ab) (ht : t ∈ tm) (hq : Q (.bool true) σ) : WFn (cx w mean mg mb) ⟨n + 1, true, sc⟩ m_House_is_team [.ref H, .str t.name] ρ Q X σ := by
 have hH := h.hou
 have hd := h.dws
 have hg := getK_team h ht
 refine WFn.fn2 (p1 := "self") (p2 := "team") (FnAt.of2 (rfl : (Mine.hd.heap_39 w.params).lookup m_House_is_team = _) (by kernel_rfl) (fun _ _ => rfl) (by kernel_rfl)) ?_
 refine Wc (WS.ret (WE.and (WE.callP (by kernel_rfl) g_isinstance (Callee.con rfl) (Po PL (Po (PE.globalA (by kernel_rfl) g_str) PN)) rfl ?_)))
 refine WCall.isinstance KindOf.str k_str_str ?_
 refine Wb (if_tt (WE.and1 ?_))
 refine WE.cmp1 rfl (WE.lo ?_)
 refine PE.use (PE.at PL ‹_› lk_head) ?_
 refine WC.inS_t ‹_› ‹_› ?_
 exact hq
theorem need_hand_c {H dw da : Nat} {tm : List Team} {ab : List (Str × Str)} {nm up : Str} (h : HouseD σ H dw da tm ab) (hm : (nm, up) ∈ ab) (hn : nm ∉ tm.map (·.name)) (hq : Q (.str up) σ) : WFn (cx w mean mg mb) ⟨n + 2, true, sc⟩ m_House_need_hand [.ref H, .str nm] ρ Q X σ := by
 have hH := h.hou
 have hd := h.dws
 have hg := getK_noteam hn
 refine WFn.fn2 (p1 := "self") (p2 := "name") (FnAt.of2 (rfl : (Mine.hd.heap_39 w.params).lookup m_House_need_hand = _) (by kernel_rfl) (fun _ _ => rfl) (by kernel_rfl)) ?_
 refine Wc (WS.assign (fun _ _ _ => rfl) (WE.mp PL ‹_› ms_House_need (Po PL PN) ?_))
 refine Wf (hneed_c h hm ?_)
 refine Wl (by kernel_rfl) ?_
 refine Wc (WS.ite (WT.cmp1 rfl (WE.lo ?_)))
 refine PE.use (PE.at PL ‹_› lk_head) ?_
 refine WC.inS_f ‹_› ‹_› ?_
 refine Wb (if_ff (Wn (WSs.retP PL ?_)))
 exact hq
def LETTERS : Str := "abcdefghijklmnopqrstuvwxyz"
def inL (n : Nat) : Bool := !(Builtin.Str.occurrences LETTERS ⟨#[n]⟩ 0 LETTERS.length 1).isEmpty
def goodN (x : Str) : Bool := decide (1 <= (x.length : Int)) && decide ((x.length : Int) <= 8) && (x.cps.toList.map inL).all id
theorem is_name_c {x : Str} (hz : x.length <= 1000) (ha : x.cps.all (· < 128) = true) (hq : ∀ σ', Extd σ σ' -> Q (.bool (goodN x)) σ') : WFn (cx w mean mg mb) ⟨n + 1, true, sc⟩ a_is_name [.str x] ρ Q X σ := by
 refine WFn.fn1 (p1 := "thing") (FnAt.of1 (rfl : (Mine.hd.heap_39 w.params).lookup a_is_name = _) (by kernel_rfl) (fun _ => rfl) (by kernel_rfl)) ?_
 refine Wc (WS.ite (WT.bool (WA.or (WT.not (WT.plain (fun _ _ => rfl) (WE.callP (by kernel_rfl) g_isinstance (Callee.con rfl) (Po PL (Po (PE.globalA (by kernel_rfl) g_str) PN)) rfl ?_))))))
 refine WCall.isinstance KindOf.str k_str_str ?_
 refine Wb (if_nt ?_)
 refine WA.or (WT.not (WT.cmp2 rfl ?_))
 refine WE.int (WE.callP (by kernel_rfl) g_len (Callee.con rfl) (Po PL PN) rfl ?_)
 refine WCall.lenStr (Nat.le_trans hz (by decide)) ?_
 unfold goodN at hq
 by_cases h1 : 1 <= (x.length : Int)
 · rw [decide_eq_true h1, Bool.true_and] at hq
   by_cases h8 : (x.length : Int) <= 8
   · rw [decide_eq_true h8, Bool.true_and] at hq
     refine WC.le ?_
     refine Wb (if_dt ‹_› ?_)
     refine WE.globalA (by kernel_rfl) g_MOST_LETTERS ?_
     refine WC.le ?_
     refine Wb ?_
     rw [decide_eq_true h8]
     refine if_nt ?_
     refine WA.or_nil (if_ff (Wn (Wc (WS.ret (WE.call rfl rfl (WE.globalA (by kernel_rfl) g_all ?_))))))
     refine And.intro (Callee.con rfl) (WEs.cons rfl ?_)
     refine WE.compA 9 rfl (fun _ _ => rfl) (by kernel_rfl) (by ((repeat (first | assumption | (refine Lo.put_ne (by kernel_rfl) ?_))); rfl)) ?_
     refine WE.lo ?_
     refine (iEEAA _ _ (Iterable.text ha) (by simp; exact Nat.le_trans hz (by decide)) ?_)
     refine WComp.inv (fun j acc σ' => σ' = σ /\ acc = ((x.cps.toList.take j).map inL).map .bool) _ 0 ⟨rfl, rfl⟩ ?_ ?_
     · rintro k v acc σ' hv ⟨rfl, rfl⟩
       rw [List.getElem?_map] at hv
       refine eEA (Option.map_eq_some_iff.mp hv) fun ch hc z1' => ?_; subst z1'
       refine ⟨trivial, ?_⟩
       refine WE.cmp1 rfl (WE.lo ?_)
       refine WE.globalA (by kernel_rfl) g_LETTERS ?_
       refine WC.inText ?_
       refine ⟨rfl, ?_⟩
       rw [Nat.zero_add, List.take_add_one, hc, List.map_append, List.map_append]
       rfl
     · rintro acc σ' ⟨rfl, rfl⟩
       refine ⟨trivial, fun D hD => ?_⟩
       have el : x.cps.toList.take (0 + (x.cps.toList.map fun n => MV.str ⟨#[n]⟩).length) = x.cps.toList := by rw [Nat.zero_add, List.length_map, List.take_length]
       rw [el]
       refine WEs.nil (WCall.all rfl (ListAt.own Hp.self) ?_)
       exact hq _ fun a p e => Hp.new hD e
   · rw [decide_eq_false h8, Bool.false_and] at hq
     refine WC.le ?_
     refine Wb (if_dt ‹_› ?_)
     refine WE.globalA (by kernel_rfl) g_MOST_LETTERS ?_
     refine WC.le ?_
     refine Wb ?_
     rw [decide_eq_false h8]
     refine if_nf ?_
     refine if_tt (WSs.retP PE.bool ?_)
     exact hq _ fun a p e => e
 · rw [decide_eq_false h1, Bool.false_and, Bool.false_and] at hq
   refine WC.le ?_
   refine Wb (if_df ‹_› ?_)
   refine if_nf ?_
   refine if_tt (WSs.retP PE.bool ?_)
   exact hq _ fun a p e => e
theorem HouseD.ext {σ σ' : Hp} {H dw da : Nat} {tm : List Team} {ab : List (Str × Str)} (h : HouseD σ H dw da tm ab) (e : Extd σ σ') : HouseD σ' H dw da tm ab := h.keep (fun q => e _ _ q) (fun q _ => e _ _ q)
theorem make_house (g : Nat) (hg : 100 <= g) (hq : ∀ H dw da W d σ', HouseD σ' H dw da [⟨"", W, d, g, 0, []⟩] [] -> Extd σ σ' -> Q (.ref H) σ') : WFn (cx w mean mg mb) ⟨n + 4, true, sc⟩ a_House [] ρ Q X σ := by
 refine WFn.make 1 mi_House fun b hb hbn => ?_
 refine WFn.fn1 (p1 := "self") (FnAt.of1 (rfl : (Mine.hd.heap_39 w.params).lookup m_House_init = _) (by kernel_rfl) (fun _ => rfl) (by kernel_rfl)) ?_
 refine Wc (WS.setAttr (fun _ _ _ => rfl) (WE.dict1 1 fun dw hdw => ?_))
 refine WE.globalA (by kernel_rfl) g_TOP ?_
 refine WE.callP (by kernel_rfl) g_Wheel (Callee.cls mi_Wheel) PN rfl ?_
 refine Wf (make_wheelF g fun W d σ2 n1 n2 hw e2 => ?_)
 have hdw2 := e2 _ _ Hp.self
 have hb2 := e2 _ _ (Hp.new hdw.none Hp.self)
 refine (iEAA _ rfl hdw2 ?_)
 have hbd : b ≠ dw := fun q => by have := hdw.none; rw [<- q, Hp.self] at this; exact nomatch this
 have e0 : Extd σ (σ2.put dw 1 (.sdict [("", .ref W)])) := fun a p q => Hp.ne (fun e => by have := hdw.none; rw [<- e, Hp.new hbn q] at this; exact nomatch this) (e2 _ _ (Hp.new hdw.none (Hp.new hbn q)))
 have hw3 := hw.keep (σ' := σ2.put dw 1 (.sdict [("", .ref W)])) (Kpt.put hdw2 (by omega))
 have hb3 : (σ2.put dw 1 (.sdict [("", .ref W)])) b = _ := Hp.ne hbd hb2
 have hd3 : (σ2.put dw 1 (.sdict [("", .ref W)])) dw = some (1, .sdict [("", .ref W)]) := Hp.self
 generalize σ2.put dw 1 (.sdict [("", .ref W)]) = σ3 at e0 hw3 hb3 hd3 ⊢
 refine WE.lo ?_
 refine WSet.inst' (fs' := [("wheels", .ref dw)]) hb3 (by kernel_rfl) (by kernel_rfl) (by simp) ?_
 refine Wc (WS.setAttr (fun _ _ _ => rfl) (WE.sdict 1 fun da hda => ?_))
 have hbda : b ≠ da := fun q => by have := hda.none; rw [<- q, Hp.self] at this; exact nomatch this
 have hdd : dw ≠ da := fun q => by have := hda.none; rw [<- q, Hp.ne (Ne.symm hbd) hd3] at this; exact nomatch this
 refine WE.lo ?_
 refine WSet.inst' (fs' := [("wheels", .ref dw), ("above", .ref da)]) (Hp.ne hbda Hp.self) (by kernel_rfl) (by kernel_rfl) (by simp) ?_
 refine Wn (⟨rfl, ?_⟩)
 have hg1 : g ≠ 1 := by omega
 refine hq b dw da W d _ ⟨Hp.self, Hp.ne (Ne.symm hbd) (Hp.ne hdd (Hp.ne (Ne.symm hbd) hd3)), Hp.ne (Ne.symm hbda) Hp.self, fun t ht => ?_, by simp, by simp, fun t ht => ?_, by simp, hdd⟩ fun a p q => ?_
 · rw [List.mem_singleton.mp ht]
   exact hw3.keep ⟨fun a o q => Hp.tag (Hp.ne hbda Hp.self) hg1 (Hp.new hda.none (Hp.tag hb3 hg1 q))⟩
 · rw [List.mem_singleton.mp ht]; exact hg
 · have ne : a ≠ b := fun e => by rw [e, hbn] at q; exact nomatch q
   exact Hp.ne ne (Hp.new hda.none (Hp.ne ne (e0 _ _ q)))
theorem stand_ok {H dw da k : Nat} {tm : List Team} {ab : List (Str × Str)} {t : Team} {nm : Str} {share : Int} (h : HouseD σ H dw da tm ab) (hz : nm.length <= 1000) (ha : nm.cps.all (· < 128) = true) (hn : goodN nm = true) (hnew : nm ∉ ab.map (·.1)) (hk : tm[k]? = some t) (h0 : 1 <= share) (h1 : share <= 12) (hnt : nm ∉ t.l.map (·.name)) (hl : t.l.length <= 1000000) (hal : ab.length <= 1000000)
 (hq : ∀ a σ', HouseD σ' H dw da (tm.set k { t with l := t.l ++ [⟨nm, a, share, 0, false⟩] }) (ab ++ [(nm, t.name)]) -> KpH σ σ' -> Q .none σ') : WFn (cx w mean mg mb) ⟨n + 4, true, sc⟩ m_House_stand [.ref H, .str nm, .str t.name, .int share] ρ Q X σ := by
 refine WFn.fn4 (p1 := "self") (p2 := "name") (p3 := "above") (p4 := "share") (FnAt.of4 (rfl : (Mine.hd.heap_39 w.params).lookup m_House_stand = _) (by kernel_rfl) (fun _ _ _ _ => rfl) (by kernel_rfl)) ?_
 refine Wc (WS.ite (WT.not (WT.plain (fun _ _ => rfl) (WE.cp g_is_name fn_is_name (Po PL PN) ?_))))
 refine Wf (is_name_c hz ha fun σ1 e1 => ?_)
 rw [hn]
 have hm := Mg hk
 have h2 := h.ext e1
 have hH := h2.hou
 have hdd := h2.das
 have hdw := h2.dws
 have hg := getK_noabove hnew
 have hgt := getK_team h2 hm
 refine Wb (if_nt ?_)
 refine Wn (Wc (WS.ite (WT.cmp1 rfl (WE.lo ?_))))
 refine PE.use (PE.at PL ‹_› (lk_tail (by kernel_rfl) lk_head)) ?_
 refine WC.inS_f ‹_› ‹_› ?_
 refine Wb (if_ff (Wn (Wc (WS.ite (WT.not (WT.plain (fun _ _ => rfl) (WE.mp PL ‹_› ms_House_is_team (Po PL PN) ?_)))))))
 refine Wf (is_team_yes h2 hm ?_)
 refine Wb (if_nt ?_)
 refine Wn (Wc (WS.expr (fun _ _ _ => rfl) (WE.cp g_step fn_step (Po PL PN) ?_)))
 refine Wf (step_ok h0 h1 ?_)
 have hwt := h2.whl t hm
 have hW : σ1 t.W = some (t.g, .inst a_Wheel [("past", .int t.past), ("sharers", .ref t.d)]) := hwt.whl
 refine Wc (WS.expr (fun _ _ _ => rfl) (WE.mp (PE.sub (PE.at PL ‹_› lk_head) PL (PI.sdict (fun _ _ => rfl) ‹_› ‹_›)) ‹_› ms_Wheel_enter (Po PL (Po PL PN)) ?_))
 refine Wf (enter_c hwt hnt h0 h1 hl fun a σ3 h3 o3 => ?_)
 have hh := h2.one (t' := { t with l := t.l ++ [⟨nm, a, share, 0, false⟩] }) hk rfl rfl rfl h3 o3
 have k3 : KpH σ σ3 := fun b t' o q n1 n100 => o3.at (e1 _ _ q) (by have := h.gg t hm; omega)
 have hH3 := hh.hou
 have hda3 := hh.das
 clear hH hdd hdw hW hwt h3 o3
 refine Wc (WS.setItem (fun _ _ _ => rfl) (WE.lo ?_))
 refine PE.use (PE.at PL ‹_› (lk_tail (by kernel_rfl) lk_head)) ?_
 refine WE.lo ?_
 refine WPut.sdict hda3 (by simpa [aents] using hal) ?_
 rw [putK_no (by rw [aents_names]; exact hnew)]
 refine Wn ?_
 have ea : aents (ab ++ [(nm, t.name)]) = aents ab ++ [(nm, .str t.name)] := by simp [aents]
 rw [<- ea]
 refine hq a _ ⟨Hp.ne (fun q => ?_) hH3, Hp.ne hh.dd hh.dws, Hp.self, fun u hu => (hh.whl u hu).keep (Kpt.put hda3 (by have := hh.gg u hu; omega)), hh.tn, hh.tg, hh.gg, ?_, hh.dd⟩ fun b t' o q n1 n100 => Hp.tag hda3 n1 (k3 b t' o q n1 n100)
 · rw [q, hda3] at hH3; exact nomatch hH3
 · rw [List.map_append]
   refine List.nodup_append.mpr (iA2 hh.an (by simp) (fun x hx y hy q => ?_))
   have e2 : y = nm := by simpa using hy
   exact hnew (e2 ▸ q ▸ hx)
theorem stand_twice {H dw da : Nat} {tm : List Team} {ab : List (Str × Str)} {nm up : Str} {ab' v : MV} (h : HouseD σ H dw da tm ab) (hz : nm.length <= 1000) (ha : nm.cps.all (· < 128) = true) (hn : goodN nm = true) (hm : (nm, up) ∈ ab) (hx : ∀ e σ', Extd σ σ' -> X false a_Twice e σ') : WFn (cx w mean mg mb) ⟨n + 2, true, sc⟩ m_House_stand [.ref H, .str nm, ab', v] ρ Q X σ := by
 refine WFn.fn4X (p1 := "self") (p2 := "name") (p3 := "above") (p4 := "share") (FnAt.of4 (rfl : (Mine.hd.heap_39 w.params).lookup m_House_stand = _) (by kernel_rfl) (fun _ _ _ _ => rfl) (by kernel_rfl)) ?_
 refine Wc (WS.ite (WT.not (WT.plain (fun _ _ => rfl) (WE.cp g_is_name fn_is_name (Po PL PN) ?_))))
 refine Wf (is_name_c hz ha fun σ1 e1 => ?_)
 rw [hn]
 have h2 := h.ext e1
 have hH := h2.hou
 have hdd := h2.das
 have hg := getK_above h2 hm
 refine Wb (if_nt ?_)
 refine Wn (Wc (WS.ite (WT.cmp1 rfl (WE.lo ?_))))
 refine PE.use (PE.at PL ‹_› (lk_tail (by kernel_rfl) lk_head)) ?_
 refine WC.inS_t ‹_› ‹_› ?_
 refine Wb (if_tt (Wc (WS.raise rfl (by kernel_rfl) g_Twice (by kernel_rfl) PySem.F.excBase_ValueError PySem.F.excBase_ValueError (by kernel_rfl) rfl ?_)))
 refine WE.str ?_
 exact fun e => hx e σ1 e1
/-- no team -/
theorem hand_ok {H dw da k : Nat} {tm : List Team} {ab : List (Str × Str)} {t : Team} {nm : Str} {share : Int} (h : HouseD σ H dw da tm ab) (hz : nm.length <= 1000) (ha : nm.cps.all (· < 128) = true) (hn : goodN nm = true) (hnew : nm ∉ ab.map (·.1)) (hk : tm[k]? = some t) (h0 : 1 <= share) (h1 : share <= 12) (hnt : nm ∉ t.l.map (·.name)) (hl : t.l.length <= 1000000) (hal : ab.length <= 1000000)
 (hq : ∀ a σ', HouseD σ' H dw da (tm.set k { t with l := t.l ++ [⟨nm, a, share, 0, false⟩] }) (ab ++ [(nm, t.name)]) -> KpH σ σ' -> Q .none σ') : WFn (cx w mean mg mb) ⟨n + 5, true, sc⟩ m_House_hand [.ref H, .str nm, .str t.name, .int share] ρ Q X σ := by
 have hH := h.hou
 refine WFn.fn4 (p1 := "self") (p2 := "name") (p3 := "above") (p4 := "share") (FnAt.of4 (rfl : (Mine.hd.heap_39 w.params).lookup m_House_hand = _) (by kernel_rfl) (fun _ _ _ _ => rfl) (by kernel_rfl)) ?_
 refine Wc (WS.expr (fun _ _ _ => rfl) (WE.mp PL ‹_› ms_House_stand (Po PL (Po PL (Po PL PN))) ?_))
 refine Wf (stand_ok h hz ha hn hnew hk h0 h1 hnt hl hal fun a σ' h' k' => ?_)
 refine Wn ?_
 exact hq a σ' h' k'
/-- whatever stand refuses, hand and team refuse -/
theorem hand_bad {H dw da : Nat} {tm : List Team} {ab : List (Str × Str)} {u u' v : MV} (h : HouseD σ H dw da tm ab) (hs : ∀ {Q' : MV -> Hp -> Prop} {ρ' : Lo} {sc' : Scope}, WFn (cx w mean mg mb) ⟨n + 4, true, sc'⟩ m_House_stand [.ref H, u, u', v] ρ' Q' (fun _ C e σ' => X false C e σ') σ) : WFn (cx w mean mg mb) ⟨n + 5, true, sc⟩ m_House_hand [.ref H, u, u', v] ρ Q X σ := by
 have hH := h.hou
 refine WFn.fn4X (p1 := "self") (p2 := "name") (p3 := "above") (p4 := "share") (FnAt.of4 (rfl : (Mine.hd.heap_39 w.params).lookup m_House_hand = _) (by kernel_rfl) (fun _ _ _ _ => rfl) (by kernel_rfl)) ?_
 refine Wc (WS.expr (fun _ _ _ => rfl) (WE.mp PL ‹_› ms_House_stand (Po PL (Po PL (Po PL PN))) ?_))
 exact Wf hs
theorem team_bad {H dw da : Nat} {tm : List Team} {ab : List (Str × Str)} {u u' v : MV} (h : HouseD σ H dw da tm ab) (hs : ∀ {Q' : MV -> Hp -> Prop} {ρ' : Lo} {sc' : Scope}, WFn (cx w mean mg mb) ⟨n + 4, true, sc'⟩ m_House_stand [.ref H, u, u', v] ρ' Q' (fun _ C e σ' => X false C e σ') σ) : WFn (cx w mean mg mb) ⟨n + 5, true, sc⟩ m_House_team [.ref H, u, u', v] ρ Q X σ := by
 have hH := h.hou
 refine WFn.fn4X (p1 := "self") (p2 := "name") (p3 := "above") (p4 := "share") (FnAt.of4 (rfl : (Mine.hd.heap_39 w.params).lookup m_House_team = _) (by kernel_rfl) (fun _ _ _ _ => rfl) (by kernel_rfl)) ?_
 refine Wc (WS.expr (fun _ _ _ => rfl) (WE.mp PL ‹_› ms_House_stand (Po PL (Po PL (Po PL PN))) ?_))
 exact Wf hs
theorem team_ok (g : Nat) (hg : 100 <= g) {H dw da k : Nat} {tm : List Team} {ab : List (Str × Str)} {t : Team} {nm : Str} {share : Int} (h : HouseD σ H dw da tm ab) (hgn : g ∉ tm.map (·.g)) (hz : nm.length <= 1000) (ha : nm.cps.all (· < 128) = true) (hn : goodN nm = true) (hnew : nm ∉ ab.map (·.1)) (hntm : nm ∉ tm.map (·.name)) (hk : tm[k]? = some t) (h0 : 1 <= share) (h1 : share <= 12) (hnt : nm ∉ t.l.map (·.name)) (hl : t.l.length <= 1000000) (hal : ab.length <= 1000000) (htl : tm.length <= 1000000)
 (hq : ∀ a W d σ', HouseD σ' H dw da (tm.set k { t with l := t.l ++ [⟨nm, a, share, 0, false⟩] } ++ [⟨nm, W, d, g, 0, []⟩]) (ab ++ [(nm, t.name)]) -> KpH σ σ' -> Q .none σ') : WFn (cx w mean mg mb) ⟨n + 5, true, sc⟩ m_House_team [.ref H, .str nm, .str t.name, .int share] ρ Q X σ := by
 have hH := h.hou
 refine WFn.fn4 (p1 := "self") (p2 := "name") (p3 := "above") (p4 := "share") (FnAt.of4 (rfl : (Mine.hd.heap_39 w.params).lookup m_House_team = _) (by kernel_rfl) (fun _ _ _ _ => rfl) (by kernel_rfl)) ?_
 refine Wc (WS.expr (fun _ _ _ => rfl) (WE.mp PL ‹_› ms_House_stand (Po PL (Po PL (Po PL PN))) ?_))
 refine Wf (stand_ok h hz ha hn hnew hk h0 h1 hnt hl hal fun a σ1 h1' k1 => ?_)
 have en : (tm.set k { t with l := t.l ++ [⟨nm, a, share, 0, false⟩] }).map (·.name) = tm.map (·.name) := map_set_same _ hk rfl
 have eg : (tm.set k { t with l := t.l ++ [⟨nm, a, share, 0, false⟩] }).map (·.g) = tm.map (·.g) := map_set_same _ hk rfl
 have el : (tm.set k { t with l := t.l ++ [⟨nm, a, share, 0, false⟩] }).length = tm.length := List.length_set ..
 have hq' := hq a
 clear hq
 generalize tm.set k { t with l := t.l ++ [⟨nm, a, share, 0, false⟩] } = tm2 at h1' en eg el hq'
 generalize ab ++ [(nm, t.name)] = ab2 at h1' hq'
 refine Wc (WS.setItem (fun _ _ _ => rfl) (WE.callP (by kernel_rfl) g_Wheel (Callee.cls mi_Wheel) PN rfl ?_))
 refine Wf (make_wheelF g fun W d σ2 n1 n2 hw e2 => ?_)
 have h2 := h1'.ext e2
 have hH2 := h2.hou
 have hd2 := h2.dws
 refine PE.use (PE.at PL ‹_› lk_head) ?_
 refine WE.lo ?_
 refine WPut.sdict hd2 (by simpa [tents, el] using htl) ?_
 rw [putK_no (by rw [tents_names, en]; exact hntm)]
 refine Wn ?_
 have et : tents (tm2 ++ [⟨nm, W, d, g, 0, []⟩]) = tents tm2 ++ [(nm, .ref W)] := by simp [tents]
 rw [<- et]
 have hg1 : g ≠ 1 := by omega
 refine hq' W d _ ⟨Hp.ne (fun q => ?_) hH2, Hp.self, Hp.ne (Ne.symm h2.dd) h2.das, fun u hu => ?_, ?_, ?_, fun u hu => ?_, h2.an, h2.dd⟩ fun b t' o q m1 m100 => Hp.tag hd2 m1 (e2 _ _ (k1 b t' o q m1 m100))
 · rw [q, hd2] at hH2; exact nomatch hH2
 · rcases List.mem_append.mp hu with hu | hu
   · exact (h2.whl u hu).keep (Kpt.put hd2 (by have := h2.gg u hu; omega))
   · rw [List.mem_singleton.mp hu]; exact hw.keep (Kpt.put hd2 hg1)
 · rw [List.map_append, en]
   refine List.nodup_append.mpr (iA2 h.tn (by simp) (fun x hx y hy q => ?_))
   have e2 : y = nm := by simpa using hy
   exact hntm (e2 ▸ q ▸ hx)
 · rw [List.map_append, eg]
   refine List.nodup_append.mpr (iA2 h.tg (by simp) (fun x hx y hy q => ?_))
   have e2 : y = g := by simpa using hy
   exact hgn (e2 ▸ q ▸ hx)
 · rcases List.mem_append.mp hu with hu | hu
   · exact h2.gg u hu
   · rw [List.mem_singleton.mp hu]; exact hg
theorem reshare_h {H dw da k j : Nat} {tm : List Team} {ab : List (Str × Str)} {t : Team} {x : Shr} {share : Int} (h : HouseD σ H dw da tm ab) (hk : tm[k]? = some t) (hm : (x.name, t.name) ∈ ab) (hj : t.l[j]? = some x) (h0 : 1 <= share) (h1 : share <= 12) (g0 : 1 <= x.share) (g1 : x.share <= 12)
 (hq : ∀ σ', HouseD σ' H dw da (tm.set k { t with l := t.l.set j (shared t.past share x) }) ab -> KpH σ σ' -> Q .none σ') : WFn (cx w mean mg mb) ⟨n + 4, true, sc⟩ m_House_reshare [.ref H, .str x.name, .int share] ρ Q X σ := by
 have hH := h.hou
 have hd := h.dws
 have hmt := Mg hk
 have hgt := getK_team h hmt
 have hwt := h.whl t hmt
 have hW : σ t.W = some (t.g, .inst a_Wheel [("past", .int t.past), ("sharers", .ref t.d)]) := hwt.whl
 refine WFn.fn3 (p1 := "self") (p2 := "name") (p3 := "share") (FnAt.of3 (rfl : (Mine.hd.heap_39 w.params).lookup m_House_reshare = _) (by kernel_rfl) (fun _ _ _ => rfl) (by kernel_rfl)) ?_
 refine Wc (WS.expr (fun _ _ _ => rfl) (WE.method (fun _ _ => rfl) rfl rfl rfl (WE.sub (PE.use (PE.at PL ‹_› lk_head) ?_))))
 refine WE.mp PL ‹_› ms_House_need (Po PL PN) ?_
 refine Wf (hneed_c h hm ?_)
 refine WSub.sdict (fun _ _ => rfl) ‹_› ‹_› ?_
 refine WM.inst ‹_› ms_Wheel_reshare (by kernel_rfl) ?_
 refine And.intro (Callee.meth ms_Wheel_reshare) ?_
 refine PEs.use (Po PL (Po PL PN)) ?_
 refine Wf (reshare_c hwt hj h0 h1 g0 g1 fun σ1 h1' o1 => ?_)
 refine Wn ?_
 exact hq σ1 (h.one (t' := { t with l := t.l.set j (shared t.past share x) }) hk rfl rfl rfl h1' o1) fun b t' o q m1 m100 => o1.at q (by have := h.gg t hmt; omega)
theorem reshare_hbad {H dw da k j : Nat} {tm : List Team} {ab : List (Str × Str)} {t : Team} {x : Shr} {v : MV} (h : HouseD σ H dw da tm ab) (hk : tm[k]? = some t) (hm : (x.name, t.name) ∈ ab) (hj : t.l[j]? = some x) (hv : NoShare w mean mg mb σ v)
 (hx : ∀ e, X false a_BadShare e σ) : WFn (cx w mean mg mb) ⟨n + 4, true, sc⟩ m_House_reshare [.ref H, .str x.name, v] ρ Q X σ := by
 have hH := h.hou
 have hd := h.dws
 have hmt := Mg hk
 have hgt := getK_team h hmt
 have hwt := h.whl t hmt
 have hW : σ t.W = some (t.g, .inst a_Wheel [("past", .int t.past), ("sharers", .ref t.d)]) := hwt.whl
 refine WFn.fn3X (p1 := "self") (p2 := "name") (p3 := "share") (FnAt.of3 (rfl : (Mine.hd.heap_39 w.params).lookup m_House_reshare = _) (by kernel_rfl) (fun _ _ _ => rfl) (by kernel_rfl)) ?_
 refine Wc (WS.expr (fun _ _ _ => rfl) (WE.method (fun _ _ => rfl) rfl rfl rfl (WE.sub (PE.use (PE.at PL ‹_› lk_head) ?_))))
 refine WE.mp PL ‹_› ms_House_need (Po PL PN) ?_
 refine Wf (hneed_c h hm ?_)
 refine WSub.sdict (fun _ _ => rfl) ‹_› ‹_› ?_
 refine WM.inst ‹_› ms_Wheel_reshare (by kernel_rfl) ?_
 refine And.intro (Callee.meth ms_Wheel_reshare) ?_
 refine PEs.use (Po PL (Po PL PN)) ?_
 exact Wf (reshare_bad hwt hj hv hx)
theorem wheel_of_ok (t' : Nat) {H dw da : Nat} {tm : List Team} {ab : List (Str × Str)} {t : Team} (h : HouseD σ H dw da tm ab) (ht : t ∈ tm) (hl : t.l.length <= 1000000)
 (hq : ∀ W' d' l' σ', WheelD σ' W' d' t' t.past l' -> l'.map core = t.l.map core -> Extd σ σ' -> Q (.ref W') σ') : WFn (cx w mean mg mb) ⟨n + 4, true, sc⟩ m_House_wheel_of [.ref H, .str t.name] ρ Q X σ := by
 have hH := h.hou
 have hd := h.dws
 have hgt := getK_team h ht
 have hwt := h.whl t ht
 have hW : σ t.W = some (t.g, .inst a_Wheel [("past", .int t.past), ("sharers", .ref t.d)]) := hwt.whl
 refine WFn.fn2 (p1 := "self") (p2 := "team") (FnAt.of2 (rfl : (Mine.hd.heap_39 w.params).lookup m_House_wheel_of = _) (by kernel_rfl) (fun _ _ => rfl) (by kernel_rfl)) ?_
 refine Wc (WS.ite (WT.not (WT.plain (fun _ _ => rfl) (WE.mp PL ‹_› ms_House_is_team (Po PL PN) ?_))))
 refine Wf (is_team_yes h ht ?_)
 refine Wb (if_nt ?_)
 refine Wn (Wc (WS.ret (WE.mp (PE.sub (PE.at PL ‹_› lk_head) PL (PI.sdict (fun _ _ => rfl) ‹_› ‹_›)) ‹_› ms_Wheel_copied PN ?_)))
 refine Wf (copied_c t' hwt hl fun W' d' l' σ' n' w' c' e' => ?_)
 exact hq W' d' l' σ' w' c' e'
theorem delK_tents (tm : List Team) (nm : Str) : delK (tents tm) nm = tents (tm.filter fun u => decide (u.name ≠ nm)) := by
 unfold delK tents
 rw [List.filter_map]
 rfl
theorem delK_aents (ab : List (Str × Str)) (nm : Str) : delK (aents ab) nm = aents (ab.filter fun p => decide (p.1 ≠ nm)) := by
 unfold delK aents
 rw [List.filter_map]
 rfl
theorem HouseD.popT {σ : Hp} {H dw da : Nat} {tm : List Team} {ab : List (Str × Str)} (h : HouseD σ H dw da tm ab) (nm : Str) : HouseD (σ.put dw 1 (.sdict (tents (tm.filter fun u => decide (u.name ≠ nm))))) H dw da (tm.filter fun u => decide (u.name ≠ nm)) ab := by
 have sub : (tm.filter fun u => decide (u.name ≠ nm)).Sublist tm := List.filter_sublist
 refine ⟨Hp.ne (fun q => ?_) h.hou, Hp.self, Hp.ne (Ne.symm h.dd) h.das, fun u hu => (h.whl u (sub.subset hu)).keep (Kpt.put h.dws (by have := h.gg u (sub.subset hu); omega)), List.Nodup.sublist (sub.map _) h.tn, List.Nodup.sublist (sub.map _) h.tg, fun u hu => h.gg u (sub.subset hu), h.an, h.dd⟩
 have hH := h.hou
 rw [q, h.dws] at hH; exact nomatch hH
theorem HouseD.popA {σ : Hp} {H dw da : Nat} {tm : List Team} {ab : List (Str × Str)} (h : HouseD σ H dw da tm ab) (nm : Str) : HouseD (σ.put da 1 (.sdict (aents (ab.filter fun p => decide (p.1 ≠ nm))))) H dw da tm (ab.filter fun p => decide (p.1 ≠ nm)) := by
 have sub : (ab.filter fun p => decide (p.1 ≠ nm)).Sublist ab := List.filter_sublist
 refine ⟨Hp.ne (fun q => ?_) h.hou, Hp.ne h.dd h.dws, Hp.self, fun u hu => (h.whl u hu).keep (Kpt.put h.das (by have := h.gg u hu; omega)), h.tn, h.tg, h.gg, List.Nodup.sublist (sub.map _) h.an, h.dd⟩
 have hH := h.hou
 rw [q, h.das] at hH; exact nomatch hH
theorem leave_team {H dw da k j : Nat} {tm : List Team} {ab : List (Str × Str)} {t u : Team} {x : Shr} (h : HouseD σ H dw da tm ab) (hu : u ∈ tm) (hun : u.name = x.name) (hul : u.l = []) (hk : (tm.filter fun u => decide (u.name ≠ x.name))[k]? = some t) (hm : (x.name, t.name) ∈ ab) (hj : t.l[j]? = some x) (hl : t.l.length <= 1000000) (hal : ab.length <= 1000000) (htl : tm.length <= 1000000)
 (hq : ∀ σ', HouseD σ' H dw da ((tm.filter fun u => decide (u.name ≠ x.name)).set k { t with l := t.l.eraseIdx j }) (ab.filter fun p => decide (p.1 ≠ x.name)) -> KpH σ σ' -> Q .none σ') : WFn (cx w mean mg mb) ⟨n + 4, true, sc⟩ m_House_leave [.ref H, .str x.name] ρ Q X σ := by
 have hH := h.hou
 have hd := h.dws
 have hgu := getK_team h hu
 rw [hun] at hgu
 have hwu := h.whl u hu
 have hWu : σ u.W = some (u.g, .inst a_Wheel [("past", .int u.past), ("sharers", .ref u.d)]) := hwu.whl
 refine WFn.fn2 (p1 := "self") (p2 := "name") (FnAt.of2 (rfl : (Mine.hd.heap_39 w.params).lookup m_House_leave = _) (by kernel_rfl) (fun _ _ => rfl) (by kernel_rfl)) ?_
 refine Wc (WS.assign (fun _ _ _ => rfl) (WE.mp PL ‹_› ms_House_need (Po PL PN) ?_))
 refine Wf (hneed_c h hm ?_)
 refine Wl (by kernel_rfl) ?_
 refine Wc (WS.ite (WT.cmp1 rfl (WE.lo ?_)))
 refine PE.use (PE.at PL ‹_› lk_head) ?_
 refine WC.inS_t ‹_› ‹_› ?_
 refine Wb (if_tt (Wc (WS.ite (WT.cmp1 rfl (WE.mp (PE.sub (PE.at PL ‹_› lk_head) PL (PI.sdict (fun _ _ => rfl) ‹_› ‹_›)) ‹_› ms_Wheel_names PN ?_)))))
 refine Wf (names_c 9 hwu (by rw [hul]; exact Nat.zero_le _) fun b hb => ?_)
 rw [hul]
 have h1 := h.ext (σ' := σ.put b 9 (.list (([] : List Shr).map (·.name) |>.map .str))) fun a p q => Hp.new hb.none q
 have k1 : KpH σ (σ.put b 9 (.list (([] : List Shr).map (·.name) |>.map .str))) := fun a t' o q _ _ => Hp.new hb.none q
 have hb1 : (σ.put b 9 (.list (([] : List Shr).map (·.name) |>.map .str))) b = some (9, .list []) := Hp.self
 generalize σ.put b 9 (.list (([] : List Shr).map (·.name) |>.map .str)) = σ1 at h1 k1 hb1 ⊢
 clear hH hd hWu hwu hb
 refine WE.list 9 ?_
 refine WEs.nil (⟨by simp, fun b2 hb2 => ?_⟩)
 refine WC.ne (Nat.succ_le_succ (Nat.zero_le _)) (by decide) (RnV.listT (k := 1) (ListAt.own (Hp.new hb2.none hb1)) (ListAt.own Hp.self) .nil) ?_
 have h2 := h1.ext (σ' := σ1.put b2 9 (.list [])) fun a p q => Hp.new hb2.none q
 have k2 : KpH σ (σ1.put b2 9 (.list [])) := fun a t' o q m1 m100 => Hp.new hb2.none (k1 a t' o q m1 m100)
 generalize σ1.put b2 9 (.list []) = σ2 at h2 k2 ⊢
 clear h1 k1 hb1 hb2
 have hH := h2.hou
 have hd := h2.dws
 refine Wb (if_ff (Wn (Wc (WS.expr (fun _ _ _ => rfl) (WE.method (fun _ _ => rfl) rfl rfl rfl (PE.use (PE.at PL ‹_› lk_head) ?_))))))
 refine WM.dictPop hd ?_
 refine And.intro (Callee.con rfl) (PEs.use (Po PL PN) ?_)
 refine WCall.dictPop hd (by simpa [tents] using htl) hgu ?_
 rw [delK_tents]
 have h3 := h2.popT x.name
 have k3 : KpH σ (σ2.put dw 1 (.sdict (tents (tm.filter fun u => decide (u.name ≠ x.name))))) := fun a t' o q m1 m100 => Hp.tag hd m1 (k2 a t' o q m1 m100)
 generalize σ2.put dw 1 (.sdict (tents (tm.filter fun u => decide (u.name ≠ x.name)))) = σ3 at h3 k3 ⊢
 clear h2 k2 hH hd hgu
 generalize (tm.filter fun u => decide (u.name ≠ x.name)) = tm3 at h3 hk hq
 have hH := h3.hou
 have hd := h3.dws
 have hmt := Mg hk
 have hgt := getK_team h3 hmt
 have hwt := h3.whl t hmt
 have hW : σ3 t.W = some (t.g, .inst a_Wheel [("past", .int t.past), ("sharers", .ref t.d)]) := hwt.whl
 refine Wn (Wc (WS.expr (fun _ _ _ => rfl) (WE.mp (PE.sub (PE.at PL ‹_› lk_head) PL (PI.sdict (fun _ _ => rfl) ‹_› ‹_›)) ‹_› ms_Wheel_leave (Po PL PN) ?_)))
 refine Wf (leave_c hwt hl hj fun σ4 h4 o4 => ?_)
 have hh := h3.one (t' := { t with l := t.l.eraseIdx j }) hk rfl rfl rfl h4 o4
 have k4 : KpH σ σ4 := fun b t' o q m1 m100 => o4.at (k3 b t' o q m1 m100) (by have := h3.gg t hmt; omega)
 clear hH hd
 have hH := hh.hou
 have hda := hh.das
 refine Wc (WS.expr (fun _ _ _ => rfl) (WE.method (fun _ _ => rfl) rfl rfl rfl (PE.use (PE.at PL ‹_› (lk_tail (by kernel_rfl) lk_head)) ?_)))
 refine WM.dictPop hda ?_
 refine And.intro (Callee.con rfl) (PEs.use (Po PL PN) ?_)
 refine WCall.dictPop hda (by simpa [aents] using hal) (getK_above hh hm) ?_
 rw [delK_aents]
 refine Wn ?_
 exact hq _ (hh.popA x.name) fun b t' o q m1 m100 => Hp.tag hda m1 (k4 b t' o q m1 m100)
theorem leave_full {H dw da : Nat} {tm : List Team} {ab : List (Str × Str)} {u : Team} {up : Str} (h : HouseD σ H dw da tm ab) (hu : u ∈ tm) (hul : 1 <= u.l.length) (hz : u.l.length <= 1000000) (hm : (u.name, up) ∈ ab) (hx : ∀ e σ', Extd σ σ' -> X false a_NotEmpty e σ') : WFn (cx w mean mg mb) ⟨n + 4, true, sc⟩ m_House_leave [.ref H, .str u.name] ρ Q X σ := by
 have hH := h.hou
 have hd := h.dws
 have hgu := getK_team h hu
 have hwu := h.whl u hu
 have hWu : σ u.W = some (u.g, .inst a_Wheel [("past", .int u.past), ("sharers", .ref u.d)]) := hwu.whl
 refine WFn.fn2X (p1 := "self") (p2 := "name") (FnAt.of2 (rfl : (Mine.hd.heap_39 w.params).lookup m_House_leave = _) (by kernel_rfl) (fun _ _ => rfl) (by kernel_rfl)) ?_
 refine Wc (WS.assign (fun _ _ _ => rfl) (WE.mp PL ‹_› ms_House_need (Po PL PN) ?_))
 refine Wf (hneed_c h hm ?_)
 refine Wl (by kernel_rfl) ?_
 refine Wc (WS.ite (WT.cmp1 rfl (WE.lo ?_)))
 refine PE.use (PE.at PL ‹_› lk_head) ?_
 refine WC.inS_t ‹_› ‹_› ?_
 refine Wb (if_tt (Wc (WS.ite (WT.cmp1 rfl (WE.mp (PE.sub (PE.at PL ‹_› lk_head) PL (PI.sdict (fun _ _ => rfl) ‹_› ‹_›)) ‹_› ms_Wheel_names PN ?_)))))
 refine Wf (names_c 9 hwu hz fun b hb => ?_)
 refine WE.list 9 ?_
 refine WEs.nil (⟨by simp, fun b2 hb2 => ?_⟩)
 refine WC.ne (Nat.succ_le_succ (Nat.zero_le _)) (by decide) (RnV.listF (ListAt.own (Hp.new hb2.none Hp.self)) (ListAt.own Hp.self) (by rw [List.length_map, List.length_map]; exact Nat.ne_of_gt hul)) ?_
 refine Wb (if_tt (Wc (WS.raise rfl (by kernel_rfl) g_NotEmpty (by kernel_rfl) PySem.F.excBase_ValueError PySem.F.excBase_ValueError (by kernel_rfl) rfl ?_)))
 refine WE.str ?_
 exact fun e => hx e _ fun a p q => Hp.new hb2.none (Hp.new hb.none q)
def nsh (x : Shr) : Str × Int := (x.name, x.share)
/-- the teams make a tree: each stands in a team before it -/
structure Tree (tm : List Team) (ab : List (Str × Str)) : Prop where
 root : ∃ t : Team, tm[0]? = some t /\ t.name = ("" : Str)
 up : ∀ (k : Nat) (t : Team), tm[k]? = some t -> 0 < k -> ∃ (k' : Nat) (t' : Team) (j : Nat) (x : Shr), k' < k /\ tm[k']? = some t' /\ (t.name, t'.name) ∈ ab /\ t'.l[j]? = some x /\ x.name = t.name
 mem : ∀ (k : Nat) (t : Team) (j : Nat) (x : Shr), tm[k]? = some t -> t.l[j]? = some x -> (x.name, t.name) ∈ ab
 top : ("" : Str) ∉ ab.map (·.1)
def anyR (l : List Shr) : Bool := l.any (·.ready)
/-- a team is ready above it where somebody in it is ready; but for the teams in the list b -/
def Link (tm : List Team) (ab : List (Str × Str)) (b : Nat -> Prop) : Prop := ∀ (k : Nat) (t : Team) (k' : Nat) (t' : Team) (j : Nat) (x : Shr), tm[k]? = some t -> ¬ b k -> (t.name, t'.name) ∈ ab -> tm[k']? = some t' -> t'.l[j]? = some x -> x.name = t.name -> x.ready = anyR t.l
/-- the same but for clocks, pasts and who is ready -/
structure Same (tm tm' : List Team) : Prop where
 len : tm'.length = tm.length
 at_ : ∀ (k : Nat) (t : Team), tm[k]? = some t -> ∃ t' : Team, tm'[k]? = some t' /\ t'.name = t.name /\ t'.W = t.W /\ t'.d = t.d /\ t'.g = t.g /\ t'.l.map nsh = t.l.map nsh
theorem Same.refl (tm : List Team) : Same tm tm := ⟨rfl, fun k t h => ⟨t, h, rfl, rfl, rfl, rfl, rfl⟩⟩
theorem Same.trans {a b c : List Team} (h : Same a b) (k : Same b c) : Same a c := ⟨k.len.trans h.len, fun i t ht => by
 refine eEAAAAA (h.at_ i t ht) fun t1 h1 n1 w1 d1 g1 l1 => ?_
 refine eEAAAAA (k.at_ i t1 h1) fun t2 h2 n2 w2 d2 g2 l2 => ?_
 exact ⟨t2, h2, n2.trans n1, w2.trans w1, d2.trans d1, g2.trans g1, l2.trans l1⟩⟩
theorem Same.set {tm : List Team} {k : Nat} {t t' : Team} (hk : tm[k]? = some t) (h : t'.name = t.name /\ t'.W = t.W /\ t'.d = t.d /\ t'.g = t.g /\ t'.l.map nsh = t.l.map nsh) : Same tm (tm.set k t') := ⟨List.length_set .., fun i u hu => by
 by_cases q : k = i
 · subst q
   have : u = t := Oi (hu.symm.trans hk)
   subst this
   exact (iEA t' (List.getElem?_set_self (Gs hk).1) h)
 · exact ⟨u, by rw [List.getElem?_set_ne q]; exact hu, rfl, rfl, rfl, rfl, rfl⟩⟩
theorem Same.names {tm tm' : List Team} (h : Same tm tm') : tm'.map (·.name) = tm.map (·.name) := by
 refine List.ext_getElem? fun i => ?_
 rw [List.getElem?_map, List.getElem?_map]
 cases e : tm[i]? with
 | none =>
  have : tm'[i]? = Option.none := by
   rw [List.getElem?_eq_none_iff] at e ⊢
   rw [h.len]; exact e
  rw [this]
 | some t =>
  refine eEAA (h.at_ i t e) fun t' h1 n1 _ => ?_
  rw [h1]
  exact congrArg some n1
theorem rows_at {l l' : List Shr} (h : l'.map nsh = l.map nsh) {j : Nat} {x : Shr} (hj : l[j]? = some x) : ∃ x', l'[j]? = some x' /\ x'.name = x.name /\ x'.share = x.share := by
 have e : (l'.map nsh)[j]? = some (x.name, x.share) := by rw [h, List.getElem?_map, hj]; rfl
 rw [List.getElem?_map] at e
 refine eEA (Option.map_eq_some_iff.mp e) fun x' h1 h2 => ?_
 exact (iEAA x' h1 (congrArg (·.1) h2) (congrArg (·.2) h2))
theorem Same.back {tm tm' : List Team} (s : Same tm tm') {k : Nat} {t' : Team} (hk : tm'[k]? = some t') : ∃ t : Team, tm[k]? = some t /\ t'.name = t.name /\ t'.l.map nsh = t.l.map nsh := by
 have hlt : k < tm.length := by rw [<- s.len]; exact (Gs hk).1
 refine eEAAAAA (s.at_ k tm[k] (List.getElem?_eq_getElem hlt)) fun t2 h2 n2 _ _ _ l2 => ?_
 have : t' = t2 := Oi (hk.symm.trans h2)
 subst this
 exact (iEAA (tm[k]) (List.getElem?_eq_getElem hlt) n2 l2)
theorem Tree.same {tm tm' : List Team} {ab : List (Str × Str)} (h : Tree tm ab) (s : Same tm tm') : Tree tm' ab := by
 refine ⟨?_, ?_, ?_, h.top⟩
 · refine eEA h.root fun t h1 h2 => ?_
   refine eEAA (s.at_ 0 t h1) fun t' h1' n' _ => ?_
   exact (iEA t' h1' (n'.trans h2))
 · intro k t' hk hpos
   have hlt : k < tm.length := by rw [<- s.len]; exact (Gs hk).1
   refine eEEEEAAAA (h.up k tm[k] (List.getElem?_eq_getElem hlt) hpos) fun k1 u j x hlt1 hu hab hj hx => ?_
   refine eEAA (s.at_ k tm[k] (List.getElem?_eq_getElem hlt)) fun t2 h2 n2 _ => ?_
   have : t' = t2 := Oi (hk.symm.trans h2)
   subst this
   refine eEAAAAA (s.at_ k1 u hu) fun u' hu' nu _ _ _ lu => ?_
   refine eEAA (rows_at lu hj) fun x' hx' nx _ => ?_
   exact (iEEEEAAAA k1 u' j x' hlt1 hu' (by rw [n2, nu]; exact hab) hx' (by rw [nx, hx, n2]))
 · intro k t' j x' hk hj
   refine eEAA (s.back hk) fun t ht nt lt => ?_
   refine eEAA (rows_at lt.symm hj) fun x hx nx _ => ?_
   rw [nt, <- nx]
   exact h.mem k t j x ht hx
theorem anyR_set {l : List Shr} {j : Nat} {y : Shr} (hj : j < l.length) (hy : y.ready = true) : anyR (l.set j y) = true := by
 unfold anyR
 rw [List.any_eq_true]
 exact (iEA y (Mg (List.getElem?_set_self hj)) hy)
theorem anyR_same {l : List Shr} {j : Nat} {x y : Shr} (hj : l[j]? = some x) (h : y.ready = x.ready) : anyR (l.set j y) = anyR l := by
 have e : (l.set j y).map (·.ready) = l.map (·.ready) := map_set_same _ hj h
 have : ∀ m : List Shr, anyR m = (m.map (·.ready)).any id := fun m => by unfold anyR; rw [List.any_map]; rfl
 rw [this, this, e]
theorem pick_some : ∀ {l : List Shr} {f : Option Shr}, (anyR l = true ∨ f.isSome = true) -> (pick l f).isSome = true
 | [], f, h => by
  rcases h with h | h
  · exact nomatch h
  · exact h
 | x :: l, f, h => by
  simp only [pick]
  refine pick_some ?_
  by_cases hr : (x.ready && better x f) = true
  · rw [if_pos hr]; exact .inr rfl
  · rw [if_neg hr]
    rcases h with h | h
    · unfold anyR at h
      rw [List.any_cons, Bool.or_eq_true] at h
      rcases h with h | h
      · cases f with
        | none => exact absurd (by rw [h]; rfl) hr
        | some y => exact .inr rfl
      · exact .inl h
    · exact .inr h
theorem pick_no {l : List Shr} (h : anyR l = false) : pick l Option.none = Option.none := pick_none fun x hx => by
 unfold anyR at h
 rw [List.any_eq_false] at h
 exact Bool.eq_false_iff.mpr (h x hx)
/-- the names of the hands keep their readiness but for f -/
def Hands (N : List Str) (f : Str -> Bool -> Bool) (tm tm' : List Team) : Prop := ∀ (k : Nat) (t : Team) (j : Nat) (y : Shr), tm[k]? = some t -> t.l[j]? = some y -> y.name ∉ N -> ∃ (t' : Team) (y' : Shr), tm'[k]? = some t' /\ t'.l[j]? = some y' /\ y'.name = y.name /\ y'.ready = f y.name y.ready
theorem Hands.trans {N : List Str} {f g : Str -> Bool -> Bool} {a b c : List Team} (h : Hands N f a b) (k : Hands N g b c) : Hands N (fun n r => g n (f n r)) a c := fun i t j y h1 h2 h3 => by
 refine eEEAAA (h i t j y h1 h2 h3) fun t1 y1 a1 a2 a3 a4 => ?_
 refine eEEAAA (k i t1 j y1 a1 a2 (by rw [a3]; exact h3)) fun t2 y2 b1 b2 b3 b4 => ?_
 exact (iEEAAA t2 y2 b1 b2 (b3.trans a3) (by rw [b4, a3, a4]))
theorem uniq {tm : List Team} {ab : List (Str × Str)} (tr : Tree tm ab) (an : (ab.map (·.1)).Nodup) (tn : (tm.map (·.name)).Nodup) {k k' : Nat} {t t' : Team} {j j' : Nat} {x x' : Shr} (h1 : tm[k]? = some t) (h2 : t.l[j]? = some x) (h1' : tm[k']? = some t') (h2' : t'.l[j']? = some x') (e : x.name = x'.name) : k = k' := by
 have m1 := tr.mem k t j x h1 h2
 have m2 := tr.mem k' t' j' x' h1' h2'
 obtain ⟨a, ha⟩ := Mi m1
 obtain ⟨b, hb⟩ := Mi m2
 have := nodup_at an ha hb e
 subst this
 have e2 := Oi (ha.symm.trans hb)
 exact nodup_at tn h1 h1' (congrArg (·.2) e2)
theorem Hands.set {tm : List Team} {ab : List (Str × Str)} {N : List Str} (tr : Tree tm ab) (an : (ab.map (·.1)).Nodup) (tn : (tm.map (·.name)).Nodup) {k j : Nat} {t : Team} {x y : Shr} (hk : tm[k]? = some t) (hj : t.l[j]? = some x) (nd : (t.l.map (·.name)).Nodup) (hy : y.name = x.name) {p : Int} : Hands N (fun n b => if n = x.name then y.ready else b) tm (tm.set k { t with past := p, l := t.l.set j y }) := fun i u m z h1 h2 _ => by
 by_cases q : k = i
 · subst q
   have : u = t := Oi (h1.symm.trans hk)
   subst this
   refine (iEEAAA _ (if m = j then y else z) (List.getElem?_set_self (Gs hk).1) ?_ ?_ ?_)
   · by_cases qm : m = j
     · subst qm; rw [if_pos rfl]; exact List.getElem?_set_self (Gs hj).1
     · rw [if_neg qm]; show (u.l.set j y)[m]? = _; rw [List.getElem?_set_ne (Ne.symm qm)]; exact h2
   · by_cases qm : m = j
     · subst qm; rw [if_pos rfl, hy]; rw [h2] at hj; rw [Oi hj]
     · rw [if_neg qm]
   · by_cases qm : m = j
     · subst qm; rw [if_pos rfl]; rw [h2] at hj; rw [Oi hj]; dsimp only; rw [if_pos rfl]
     · rw [if_neg qm]; dsimp only; rw [if_neg (fun e => qm (nodup_at nd h2 hj e))]
 · refine (iEEAAA u z (by rw [List.getElem?_set_ne q]; exact h1) h2 rfl ?_)
   dsimp only
   rw [if_neg (fun e => q (uniq tr an tn h1 h2 hk hj e).symm)]
theorem Hands.team {tm : List Team} {N : List Str} {k j : Nat} {t : Team} {x y : Shr} (hk : tm[k]? = some t) (hj : t.l[j]? = some x) (hN : x.name ∈ N) {p : Int} : Hands N (fun _ b => b) tm (tm.set k { t with past := p, l := t.l.set j y }) := fun i u m z h1 h2 h3 => by
 by_cases q : k = i
 · subst q
   have : u = t := Oi (h1.symm.trans hk)
   subst this
   have qm : m ≠ j := fun e => by subst e; rw [h2] at hj; exact h3 (Oi hj ▸ hN)
   exact (iEEAAA _ z (List.getElem?_set_self (Gs hk).1) (by show (u.l.set j y)[m]? = _; rw [List.getElem?_set_ne (Ne.symm qm)]; exact h2) rfl rfl)
 · exact (iEEAAA u z (by rw [List.getElem?_set_ne q]; exact h1) h2 rfl rfl)
theorem link_set {tm : List Team} {ab : List (Str × Str)} {b b' : Nat -> Prop} (lk : Link tm ab b) (tr : Tree tm ab) (an : (ab.map (·.1)).Nodup) (tn : (tm.map (·.name)).Nodup) {k j : Nat} {t : Team} {x y : Shr} (hk : tm[k]? = some t) (hj : t.l[j]? = some x) (nd : (t.l.map (·.name)).Nodup) (hy : y.name = x.name) {p : Int}
 (hb : ∀ k3, ¬ b' k3 -> k3 ≠ k /\ (¬ b k3 ∨ ∃ t3 : Team, tm[k3]? = some t3 /\ t3.name = x.name))
 (hx : ∀ (k3 : Nat) (t3 : Team), tm[k3]? = some t3 -> t3.name = x.name -> k3 ≠ k -> ¬ b' k3 -> y.ready = anyR t3.l) : Link (tm.set k { t with past := p, l := t.l.set j y }) ab b' := by
 intro k3 t3 k4 t4 i z h3 nb h34 h4 hi hz
 obtain ⟨n3, hor⟩ := hb k3 nb
 rw [List.getElem?_set_ne (Ne.symm n3)] at h3
 by_cases q : k = k4
 · subst q
   rw [List.getElem?_set_self (Gs hk).1] at h4
   have e4 := Oi h4
   subst e4
   by_cases qi : j = i
   · subst qi
     have hz' : (t.l.set j y)[j]? = some z := hi
     rw [List.getElem?_set_self (Gs hj).1] at hz'
     have := Oi hz'
     subst this
     exact hx k3 t3 h3 (by rw [<- hz, hy]) n3 nb
   · have hz' : (t.l.set j y)[i]? = some z := hi
     rw [List.getElem?_set_ne qi] at hz'
     rcases hor with nb' | ⟨t5, h5, e5⟩
     · exact lk k3 t3 k t i z h3 nb' h34 hk hz' hz
     · have : t3 = t5 := Oi (h3.symm.trans h5)
       subst this
       exact absurd (nodup_at nd hj hz' (by rw [hz, e5])) qi
 · rw [List.getElem?_set_ne q] at h4
   rcases hor with nb' | ⟨t5, h5, e5⟩
   · exact lk k3 t3 k4 t4 i z h3 nb' h34 h4 hi hz
   · have : t3 = t5 := Oi (h3.symm.trans h5)
     subst this
     exact absurd (uniq tr an tn hk hj h4 hi (by rw [hz, e5])) q
/-- each entry is as it was, or changed by g; the pasts stay -/
def Upd (g : Int -> Shr -> Shr) (tm tm' : List Team) : Prop := ∀ (k : Nat) (t : Team), tm[k]? = some t -> ∃ t' : Team, tm'[k]? = some t' /\ t'.past = t.past /\ ∀ (j : Nat) (y : Shr), t.l[j]? = some y -> ∃ y' : Shr, t'.l[j]? = some y' /\ (y' = y ∨ y' = g t.past y)
theorem Upd.refl (g : Int -> Shr -> Shr) (tm : List Team) : Upd g tm tm := fun k t h => (iEAA t h rfl (fun j y hy => (iEA y hy (.inl rfl))))
theorem Upd.trans {g : Int -> Shr -> Shr} (hg : ∀ p x, g p (g p x) = g p x) {a b c : List Team} (h : Upd g a b) (k : Upd g b c) : Upd g a c := fun i t ht => by
 refine eEAA (h i t ht) fun t1 h1 p1 e1 => ?_
 refine eEAA (k i t1 h1) fun t2 h2 p2 e2 => ?_
 refine (iEAA t2 h2 (p2.trans p1) (fun j y hy => ?_))
 refine eEA (e1 j y hy) fun y1 hy1 q1 => ?_
 refine eEA (e2 j y1 hy1) fun y2 hy2 q2 => ?_
 refine (iEA y2 hy2 ?_)
 rw [p1] at q2
 rcases q1 with q1 | q1 <;> rcases q2 with q2 | q2
 · exact .inl (q2.trans q1)
 · exact .inr (by rw [q2, q1])
 · exact .inr (by rw [q2, q1])
 · exact .inr (by rw [q2, q1, hg])
theorem Upd.set {g : Int -> Shr -> Shr} {tm : List Team} {k j : Nat} {t : Team} {x : Shr} (hk : tm[k]? = some t) (hj : t.l[j]? = some x) : Upd g tm (tm.set k { t with past := t.past, l := t.l.set j (g t.past x) }) := fun i u hu => by
 by_cases q : k = i
 · subst q
   have : u = t := Oi (hu.symm.trans hk)
   subst this
   refine (iEAA _ (List.getElem?_set_self (Gs hk).1) rfl (fun m y hy => ?_))
   by_cases qm : j = m
   · subst qm
     have : y = x := Oi (hy.symm.trans hj)
     subst this
     exact (iEA _ (List.getElem?_set_self (Gs hj).1) (.inr rfl))
   · exact (iEA y (by show (u.l.set j _)[m]? = _; rw [List.getElem?_set_ne qm]; exact hy) (.inl rfl))
 · exact (iEAA u (by rw [List.getElem?_set_ne q]; exact hu) rfl (fun m y hy => (iEA y hy (.inl rfl))))
theorem woken_idem (p : Int) (x : Shr) : woken p (woken p x) = woken p x := by
 have h := woken_ready (past := p) (x := x)
 generalize woken p x = y at h
 unfold woken
 rw [if_pos h]
/-- the facts that a house's way up keeps -/
structure Up (σ0 σ : Hp) (H dw da : Nat) (tm0 tm : List Team) (ab : List (Str × Str)) (f : Str -> Bool -> Bool) (g : Int -> Shr -> Shr) : Prop where
 u : Upd g tm0 tm
 h : HouseD σ H dw da tm ab
 s : Same tm0 tm
 hd : Hands (tm0.map (·.name)) f tm0 tm
 kp : KpH σ0 σ
theorem top_link {tm : List Team} {ab : List (Str × Str)} (tr : Tree tm ab) (lk : Link tm ab (· = 0)) : Link tm ab fun _ => False := fun k t k' t' j x h1 _ h2 h3 h4 h5 => by
 by_cases q : k = 0
 · subst q
   refine eEA tr.root fun t2 r1 r2 => ?_
   have : t = t2 := Oi (h1.symm.trans r1)
   subst this
   exact absurd (Mn (iEA _ h2 r2)) tr.top
 · exact lk k t k' t' j x h1 q h2 h3 h4 h5
theorem full_link {tm : List Team} {ab : List (Str × Str)} {k k' j : Nat} {t u : Team} {y : Shr} (tr : Tree tm ab) (an : (ab.map (·.1)).Nodup) (tn : (tm.map (·.name)).Nodup) (hu : tm[k']? = some u) (hj : u.l[j]? = some y) (nd : (u.l.map (·.name)).Nodup) (ht : tm[k]? = some t) (hy : y.name = t.name) (e : y.ready = anyR t.l) (lk : Link tm ab (· = k)) : Link tm ab fun _ => False := fun k3 t3 k4 t4 i z h1 _ h2 h3 h4 h5 => by
 by_cases q : k3 = k
 · subst q
   have : t3 = t := Oi (h1.symm.trans ht)
   subst this
   have e1 := uniq tr an tn hu hj h3 h4 (by rw [hy, h5])
   subst e1
   have : t4 = u := Oi (h3.symm.trans hu)
   subst this
   have e2 := nodup_at nd hj h4 (by rw [hy, h5])
   subst e2
   have : z = y := Oi (h4.symm.trans hj)
   rw [this]; exact e
 · exact lk k3 t3 k4 t4 i z h1 q h2 h3 h4 h5
theorem set_nsh {l : List Shr} {j : Nat} {x y : Shr} (hj : l[j]? = some x) (h1 : y.name = x.name) (h2 : y.share = x.share) : (l.set j y).map nsh = l.map nsh := map_set_same _ hj (by unfold nsh; rw [h1, h2])
theorem woken_nm {p : Int} {x : Shr} : (woken p x).name = x.name := by unfold woken; split <;> rfl
theorem woken_sh {p : Int} {x : Shr} : (woken p x).share = x.share := by unfold woken; split <;> rfl
theorem hwake_c {H dw da k j : Nat} {tm : List Team} {ab : List (Str × Str)} {t : Team} {x : Shr} (h : HouseD σ H dw da tm ab) (tr : Tree tm ab) (lk : Link tm ab fun _ => False) (hk : tm[k]? = some t) (hj : t.l[j]? = some x) (hn : x.name ∉ tm.map (·.name))
 (hq : ∀ tm' σ', Up σ σ' H dw da tm tm' ab (fun n b => if n = x.name then true else b) woken -> Link tm' ab (fun _ => False) -> Q (.bool (!x.ready)) σ') : WFn (cx w mean mg mb) ⟨n + 4, true, sc⟩ m_House_wake [.ref H, .str x.name] ρ Q X σ := by
 have hm := tr.mem k t j x hk hj
 have hH := h.hou
 have hd := h.dws
 have hmt := Mg hk
 have hgt := getK_team h hmt
 have hwt := h.whl t hmt
 have hW : σ t.W = some (t.g, .inst a_Wheel [("past", .int t.past), ("sharers", .ref t.d)]) := hwt.whl
 have hgg := h.gg t hmt
 refine WFn.fn2 (p1 := "self") (p2 := "name") (FnAt.of2 (rfl : (Mine.hd.heap_39 w.params).lookup m_House_wake = _) (by kernel_rfl) (fun _ _ => rfl) (by kernel_rfl)) ?_
 refine Wc (WS.assign (fun _ _ _ => rfl) (WE.mp PL ‹_› ms_House_need_hand (Po PL PN) ?_))
 refine Wf (need_hand_c h hm hn ?_)
 refine Wl (by kernel_rfl) ?_
 refine Wc (WS.ite (WT.not (WT.plain (fun _ _ => rfl) (WE.mp (PE.sub (PE.at PL ‹_› lk_head) PL (PI.sdict (fun _ _ => rfl) ‹_› ‹_›)) ‹_› ms_Wheel_wake (Po PL PN) ?_))))
 refine Wf (wake_c hwt hj fun σ1 h1 o1 => ?_)
 have hh := h.one (t' := { t with past := t.past, l := t.l.set j (woken t.past x) }) hk rfl rfl rfl h1 o1
 have U1 : Up σ σ1 H dw da tm (tm.set k { t with past := t.past, l := t.l.set j (woken t.past x) }) ab (fun n b => if n = x.name then true else b) woken := ⟨Upd.set hk hj, hh, Same.set hk (iA4 rfl rfl rfl rfl (set_nsh hj woken_nm woken_sh)), by
  have := Hands.set (N := tm.map (·.name)) tr h.an h.tn hk hj hwt.nn (y := woken t.past x) woken_nm (p := t.past)
  rwa [woken_ready] at this, fun a t' o q m1 m100 => o1.at q (by omega)⟩
 cases hr : x.ready with
 | true =>
  have ew : woken t.past x = x := by unfold woken; rw [if_pos hr]
  have et : tm.set k { t with past := t.past, l := t.l.set j (woken t.past x) } = tm := by rw [ew, set_same hj]; exact set_same hk
  rw [et] at U1
  rw [hr] at hq
  refine Wb (if_pt (by decide) ?_)
  refine WSs.retP PE.bool ?_
  exact hq tm σ1 U1 lk
 | false =>
  rw [hr] at hq
  have lk1 : Link (tm.set k { t with past := t.past, l := t.l.set j (woken t.past x) }) ab (· = k) := link_set lk tr h.an h.tn hk hj hwt.nn woken_nm (fun k3 n3 => ⟨n3, .inl fun q => q⟩) fun k3 t3 h3 e3 _ _ => absurd (Mn (iEA t3 (Mg h3) e3)) hn
  have tk : (tm.set k { t with past := t.past, l := t.l.set j (woken t.past x) })[k]? = some { t with past := t.past, l := t.l.set j (woken t.past x) } := List.getElem?_set_self (Gs hk).1
  have ar : anyR (t.l.set j (woken t.past x)) = true := anyR_set (Gs hj).1 woken_ready
  generalize tm.set k { t with past := t.past, l := t.l.set j (woken t.past x) } = tm1 at U1 lk1 tk hh
  clear hH hd hgt hW hwt h1 o1 hh
  refine Wb (if_pf (by decide) ?_)
  refine Wn (Wc (WS.whileO (fun kk ρ' σ' => ∃ tm' t', Up σ σ' H dw da tm tm' ab (fun n b => if n = x.name then true else b) woken /\ Link tm' ab (· = kk) /\ tm'[kk]? = some t' /\ anyR t'.l = true /\ ρ' "self" = some (.ref H) /\ ρ' "team" = some (.str t'.name)) k (iE2 tm1 _ (iA5 U1 lk1 tk ar (by walk_at "lk") (by walk_at "lk"))) ?_))
  rintro kk ρ' σ' ⟨tm', t', U, lk', tk', ar', r0, r1⟩
  intro KL hKL hKB hKR
  have tr' := tr.same U.s
  have hH := U.h.hou
  have hd := U.h.dws
  have ha := U.h.das
  by_cases k0 : kk = 0
  · subst k0
    refine eEA tr'.root fun t2 e1 e2 => ?_
    have : t' = t2 := Oi (tk'.symm.trans e1)
    subst this
    rw [e2] at r1
    refine PT.use (PT.cmp1 rfl PL (PE.globalA (by kernel_rfl) g_TOP) PC.neS) ?_
    refine if_pf (by decide) ?_
    refine WSs.retP PE.bool ?_
    exact hq tm' σ' U (top_link tr' lk')
  · refine eEEEEAAAA (tr'.up kk t' tk' (Nat.pos_of_ne_zero k0)) fun k2 u j2 y lt2 hu hab hj2 hy => ?_
    have nn : ¬ t'.name = "" := fun e => by
     refine eEA tr'.root fun t2 e1 e2 => ?_
     exact k0 (nodup_at U.h.tn tk' e1 (by rw [e, e2]))
    have hga := getK_above U.h hab
    have hmu := Mg hu
    have hgu := getK_team U.h hmu
    have hwu := U.h.whl u hmu
    have hWu : σ' u.W = some (u.g, .inst a_Wheel [("past", .int u.past), ("sharers", .ref u.d)]) := hwu.whl
    have hggu := U.h.gg u hmu
    have nb : (t'.name != ("" : Str)) = true := bne_iff_ne.mpr nn
    refine PT.use (PT.cmp1 rfl PL (PE.globalA (by kernel_rfl) g_TOP) PC.neS) ?_
    refine if_pt ‹_› ?_
    refine WSs.assignP (fun _ _ _ => rfl) (PE.sub (PE.at PL ‹_› (lk_tail (by kernel_rfl) lk_head)) PL (PI.sdict (fun _ _ => rfl) ‹_› ‹_›)) (by kernel_rfl) ?_
    refine Wc (WS.ite (WT.not (WT.plain (fun _ _ => rfl) (WE.mp (PE.sub (PE.at PL ‹_› lk_head) PL (PI.sdict (fun _ _ => rfl) ‹_› ‹_›)) ‹_› ms_Wheel_wake (Po PL PN) ?_))))
    rw [<- hy]
    refine Wf (wake_c hwu hj2 fun σ2 h2 o2 => ?_)
    have hh2 := U.h.one (t' := { u with past := u.past, l := u.l.set j2 (woken u.past y) }) hu rfl rfl rfl h2 o2
    have hin : y.name ∈ tm.map (·.name) := by rw [<- U.s.names, hy]; exact Mn (iEA t' (Mg tk') rfl)
    have U2 : Up σ σ2 H dw da tm (tm'.set k2 { u with past := u.past, l := u.l.set j2 (woken u.past y) }) ab (fun n b => if n = x.name then true else b) woken := ⟨U.u.trans woken_idem (Upd.set hu hj2), hh2, U.s.trans (Same.set hu (iA4 rfl rfl rfl rfl (set_nsh hj2 woken_nm woken_sh))), U.hd.trans (Hands.team hu hj2 hin), fun a t' o q m1 m100 => o2.at (U.kp a t' o q m1 m100) (by omega)⟩
    cases hyr : y.ready with
    | true =>
     have ew : woken u.past y = y := by unfold woken; rw [if_pos hyr]
     have et : tm'.set k2 { u with past := u.past, l := u.l.set j2 (woken u.past y) } = tm' := by rw [ew, set_same hj2]; exact set_same hu
     rw [et] at U2
     refine Wb (if_pt (by decide) ?_)
     refine Wc (WS.brk ?_)
     refine hKB _ _ ?_
     refine WSs.retP PE.bool ?_
     exact hq tm' σ2 U2 (full_link tr' U.h.an U.h.tn hu hj2 hwu.nn tk' hy (by rw [hyr, ar']) lk')
    | false =>
     refine Wb (if_pf (by decide) ?_)
     refine Wn (WSs.assignP (fun _ _ _ => rfl) PL (by kernel_rfl) ?_)
     refine Wn (hKL _ _ k2 lt2 (iE2 _ ({ u with past := u.past, l := u.l.set j2 (woken u.past y) }) (iA5 U2 ?_ (List.getElem?_set_self (Gs hu).1) (anyR_set (Gs hj2).1 woken_ready) (by walk_at "lk") (by walk_at "lk"))))
     refine link_set lk' tr' U.h.an U.h.tn hu hj2 hwu.nn woken_nm (fun k3 n3 => ⟨n3, ?_⟩) fun k3 t3 h3 e3 _ _ => ?_
     · by_cases q : k3 = kk
       · exact .inr (iEA t' (by rw [q]; exact tk') hy.symm)
       · exact .inl q
     · have e4 := nodup_at U.h.tn h3 tk' (by rw [e3, hy])
       subst e4
       have : t3 = t' := Oi (h3.symm.trans tk')
       rw [woken_ready, this, ar']
def rested (_ : Int) (x : Shr) : Shr := { x with ready := false }
theorem anyR_mem {l : List Shr} {j : Nat} {x : Shr} (hj : l[j]? = some x) (hr : x.ready = true) : anyR l = true := by
 unfold anyR
 rw [List.any_eq_true]
 exact (iEA x (Mg hj) hr)
theorem hrest_c {H dw da k j : Nat} {tm : List Team} {ab : List (Str × Str)} {t : Team} {x : Shr} (h : HouseD σ H dw da tm ab) (tr : Tree tm ab) (lk : Link tm ab fun _ => False) (hk : tm[k]? = some t) (hj : t.l[j]? = some x) (hn : x.name ∉ tm.map (·.name)) (hz : ∀ u ∈ tm, u.l.length <= 1000000)
 (hq : ∀ tm' σ', Up σ σ' H dw da tm tm' ab (fun n b => if n = x.name then false else b) rested -> Link tm' ab (fun _ => False) -> Q (.bool x.ready) σ') : WFn (cx w mean mg mb) ⟨n + 4, true, sc⟩ m_House_rest [.ref H, .str x.name] ρ Q X σ := by
 have hm := tr.mem k t j x hk hj
 have hH := h.hou
 have hd := h.dws
 have hmt := Mg hk
 have hgt := getK_team h hmt
 have hwt := h.whl t hmt
 have hW : σ t.W = some (t.g, .inst a_Wheel [("past", .int t.past), ("sharers", .ref t.d)]) := hwt.whl
 have hgg := h.gg t hmt
 refine WFn.fn2 (p1 := "self") (p2 := "name") (FnAt.of2 (rfl : (Mine.hd.heap_39 w.params).lookup m_House_rest = _) (by kernel_rfl) (fun _ _ => rfl) (by kernel_rfl)) ?_
 refine Wc (WS.assign (fun _ _ _ => rfl) (WE.mp PL ‹_› ms_House_need_hand (Po PL PN) ?_))
 refine Wf (need_hand_c h hm hn ?_)
 refine Wl (by kernel_rfl) ?_
 refine Wc (WS.ite (WT.not (WT.plain (fun _ _ => rfl) (WE.mp (PE.sub (PE.at PL ‹_› lk_head) PL (PI.sdict (fun _ _ => rfl) ‹_› ‹_›)) ‹_› ms_Wheel_rest (Po PL PN) ?_))))
 refine Wf (rest_c hwt hj fun σ1 h1 o1 => ?_)
 have hh := h.one (t' := { t with past := t.past, l := t.l.set j { x with ready := false } }) hk rfl rfl rfl h1 o1
 have U1 : Up σ σ1 H dw da tm (tm.set k { t with past := t.past, l := t.l.set j { x with ready := false } }) ab (fun n b => if n = x.name then false else b) rested := ⟨Upd.set hk hj, hh, Same.set hk (iA4 rfl rfl rfl rfl (set_nsh (y := { x with ready := false }) hj rfl rfl)),
  Hands.set (N := tm.map (·.name)) tr h.an h.tn hk hj hwt.nn (y := { x with ready := false }) rfl (p := t.past), fun a t' o q m1 m100 => o1.at q (by omega)⟩
 cases hr : x.ready with
 | false =>
  have ew : ({ x with ready := false } : Shr) = x := by cases x; simp at hr; subst hr; rfl
  have et : tm.set k { t with past := t.past, l := t.l.set j { x with ready := false } } = tm := by rw [ew, set_same hj]; exact set_same hk
  rw [et] at U1
  rw [hr] at hq
  refine Wb (if_nf ?_)
  refine WSs.retP PE.bool ?_
  exact hq tm σ1 U1 lk
 | true =>
  rw [hr] at hq
  have tr1 := tr.same U1.s
  have lk1 : Link (tm.set k { t with past := t.past, l := t.l.set j { x with ready := false } }) ab (· = k) := link_set lk tr h.an h.tn hk hj hwt.nn (y := { x with ready := false }) rfl (fun k3 n3 => ⟨n3, .inl fun q => q⟩) fun k3 t3 h3 e3 _ _ => absurd (Mn (iEA t3 (Mg h3) e3)) hn
  have tk : (tm.set k { t with past := t.past, l := t.l.set j { x with ready := false } })[k]? = some { t with past := t.past, l := t.l.set j { x with ready := false } } := List.getElem?_set_self (Gs hk).1
  have pe : k = 0 ∨ ∃ (k2 : Nat) (u : Team) (j2 : Nat) (y : Shr), k2 < k /\ (tm.set k { t with past := t.past, l := t.l.set j { x with ready := false } })[k2]? = some u /\ (t.name, u.name) ∈ ab /\ u.l[j2]? = some y /\ y.name = t.name /\ y.ready = true := by
   by_cases k0 : k = 0
   · exact .inl k0
   · refine eEEEEAAAA (tr.up k t hk (Nat.pos_of_ne_zero k0)) fun k2 u j2 y lt2 hu hab hj2 hy => ?_
     refine .inr (iE4 k2 u j2 y (iA5 lt2 (by rw [List.getElem?_set_ne (Nat.ne_of_gt lt2)]; exact hu) hab hj2 hy ?_))
     rw [lk k t k2 u j2 y hk (fun q => q) hab hu hj2 hy]
     exact anyR_mem hj hr
  have tl1 : ∀ u ∈ tm.set k { t with past := t.past, l := t.l.set j { x with ready := false } }, u.l.length <= 1000000 := fun u hu => by
   rcases mem_set_or hu with rfl | ⟨i, _, hi⟩
   · rw [List.length_set]; exact hz t hmt
   · exact hz u (Mg hi)
  generalize tm.set k { t with past := t.past, l := t.l.set j { x with ready := false } } = tm1 at U1 lk1 tk hh pe tl1 tr1
  clear hH hd hgt hW hwt h1 o1 hh
  refine Wb (if_nt ?_)
  refine Wn (Wc (WS.whileO (fun kk ρ' σ' => ∃ tm' t', Up σ σ' H dw da tm tm' ab (fun n b => if n = x.name then false else b) rested /\ Link tm' ab (· = kk) /\ tm'[kk]? = some t' /\ (kk = 0 ∨ ∃ (k2 : Nat) (u : Team) (j2 : Nat) (y : Shr), k2 < kk /\ tm'[k2]? = some u /\ (t'.name, u.name) ∈ ab /\ u.l[j2]? = some y /\ y.name = t'.name /\ y.ready = true) /\ (∀ u ∈ tm', u.l.length <= 1000000) /\ ρ' "self" = some (.ref H) /\ ρ' "team" = some (.str t'.name)) k (iE2 tm1 _ (iA6 U1 lk1 tk pe tl1 (by walk_at "lk") (by walk_at "lk"))) ?_))
  rintro kk ρ' σ' ⟨tm', t', U, lk', tk', pe', tl', r0, r1⟩
  intro KL hKL hKB hKR
  have tr' := tr.same U.s
  have hH := U.h.hou
  have hd := U.h.dws
  by_cases k0 : kk = 0
  · subst k0
    refine eEA tr'.root fun t2 e1 e2 => ?_
    have : t' = t2 := Oi (tk'.symm.trans e1)
    subst this
    rw [e2] at r1
    refine PT.use (PT.boolop (PA.andF (PT.cmp1 rfl PL (PE.globalA (by kernel_rfl) g_TOP) PC.neS) (by decide))) ?_
    refine if_ff (WSs.retP PE.bool ?_)
    exact hq tm' σ' U (top_link tr' lk')
  · refine eE4 (pe'.resolve_left k0) fun k2 u j2 y y0' => eA5 y0' fun lt2 hu hab hj2 hy hyr => ?_
    have nn : ¬ t'.name = "" := fun e => by
     refine eEA tr'.root fun t2 e1 e2 => ?_
     exact k0 (nodup_at U.h.tn tk' e1 (by rw [e, e2]))
    have nb : (t'.name != ("" : Str)) = true := bne_iff_ne.mpr nn
    have hmt' := Mg tk'
    have hgt' := getK_team U.h hmt'
    have hwt' := U.h.whl t' hmt'
    have hWt' : σ' t'.W = some (t'.g, .inst a_Wheel [("past", .int t'.past), ("sharers", .ref t'.d)]) := hwt'.whl
    have hggt' := U.h.gg t' hmt'
    refine WT.bool (WA.and (PT.use (PT.cmp1 rfl PL (PE.globalA (by kernel_rfl) g_TOP) PC.neS) ?_))
    refine if_pt ‹_› ?_
    refine WA.and (WT.cmp1 rfl (WE.mp (PE.sub (PE.at PL ‹_› lk_head) PL (PI.sdict (fun _ _ => rfl) ‹_› ‹_›)) ‹_› ms_Wheel_whose PN ?_))
    refine Wf (whose_c hwt' (tl' t' hmt') fun b hb => ?_)
    have hh2 := U.h.one (t' := t') tk' rfl rfl rfl (hwt'.keep (σ' := σ'.put b t'.g (.list ((ents t'.l).map fun p => .str p.1))) (Kpt.new hb.none)) (Oth.refl.new hb.none)
    rw [set_same tk'] at hh2
    have U2 : Up σ (σ'.put b t'.g (.list ((ents t'.l).map fun p => .str p.1))) H dw da tm tm' ab (fun n b => if n = x.name then false else b) rested := ⟨U.u, hh2, U.s, U.hd, fun a t2 o q m1 m100 => Hp.new hb.none (U.kp a t2 o q m1 m100)⟩
    generalize σ'.put b t'.g (.list ((ents t'.l).map fun p => .str p.1)) = σ2 at U2 hh2 ⊢
    clear hb hWt' hwt' hH hd hgt' U
    have hH := U2.h.hou
    have hd := U2.h.dws
    have hda := U2.h.das
    cases har : anyR t'.l with
    | true =>
     have hp := pick_some (l := t'.l) (f := Option.none) (.inl har)
     obtain ⟨z, hz'⟩ := Option.isSome_iff_exists.mp hp
     rw [hz']
     simp only [whoV]
     refine WE.none (WC.isNS ?_)
     refine Wb (if_ff (if_ff (WSs.retP PE.bool ?_)))
     exact hq tm' σ2 U2 (full_link tr' U2.h.an U2.h.tn hu hj2 (U2.h.whl u (Mg hu)).nn tk' hy (by rw [hyr, har]) lk')
    | false =>
     rw [pick_no har]
     simp only [whoV]
     have hga := getK_above U2.h hab
     have hmu := Mg hu
     have hgu := getK_team U2.h hmu
     have hwu := U2.h.whl u hmu
     have hWu : σ2 u.W = some (u.g, .inst a_Wheel [("past", .int u.past), ("sharers", .ref u.d)]) := hwu.whl
     have hggu := U2.h.gg u hmu
     refine WE.none (WC.isNN ?_)
     refine Wb (if_tt (WA.and_nil (if_tt (WSs.assignP (fun _ _ _ => rfl) (PE.sub (PE.at PL ‹_› (lk_tail (by kernel_rfl) lk_head)) PL (PI.sdict (fun _ _ => rfl) ‹_› ‹_›)) (by kernel_rfl) ?_))))
     refine Wc (WS.expr (fun _ _ _ => rfl) (WE.mp (PE.sub (PE.at PL ‹_› lk_head) PL (PI.sdict (fun _ _ => rfl) ‹_› ‹_›)) ‹_› ms_Wheel_rest (Po PL PN) ?_))
     rw [<- hy]
     refine Wf (rest_c hwu hj2 fun σ3 h3 o3 => ?_)
     have hh3 := U2.h.one (t' := { u with past := u.past, l := u.l.set j2 { y with ready := false } }) hu rfl rfl rfl h3 o3
     have hin : y.name ∈ tm.map (·.name) := by rw [<- U2.s.names, hy]; exact Mn (iEA t' hmt' rfl)
     have U3 : Up σ σ3 H dw da tm (tm'.set k2 { u with past := u.past, l := u.l.set j2 { y with ready := false } }) ab (fun n b => if n = x.name then false else b) rested := ⟨Upd.trans (g := rested) (fun _ _ => rfl) U2.u (Upd.set hu hj2), hh3, U2.s.trans (Same.set hu (iA4 rfl rfl rfl rfl (set_nsh (y := { y with ready := false }) hj2 rfl rfl))), U2.hd.trans (Hands.team hu hj2 hin), fun a t' o q m1 m100 => o3.at (U2.kp a t' o q m1 m100) (by omega)⟩
     refine WSs.assignP (fun _ _ _ => rfl) PL (by kernel_rfl) ?_
     refine Wn (hKL _ _ k2 lt2 (iE2 _ ({ u with past := u.past, l := u.l.set j2 { y with ready := false } }) (iA6 U3 ?_ (List.getElem?_set_self (Gs hu).1) ?_ ?_ (by walk_at "lk") (by walk_at "lk"))))
     · refine link_set lk' tr' U2.h.an U2.h.tn hu hj2 hwu.nn (y := { y with ready := false }) rfl (fun k3 n3 => ⟨n3, ?_⟩) fun k3 t3 h3 e3 _ _ => ?_
       · by_cases q : k3 = kk
         · exact .inr (iEA t' (by rw [q]; exact tk') hy.symm)
         · exact .inl q
       · have e4 := nodup_at U2.h.tn h3 tk' (by rw [e3, hy])
         subst e4
         have : t3 = t' := Oi (h3.symm.trans tk')
         rw [this, har]
     · by_cases k20 : k2 = 0
       · exact .inl k20
       · refine eEEEEAAAA (tr'.up k2 u hu (Nat.pos_of_ne_zero k20)) fun k5 u5 j5 y5 lt5 hu5 hab5 hj5 hy5 => ?_
         refine .inr (iE4 k5 u5 j5 y5 (iA5 lt5 (by rw [List.getElem?_set_ne (Nat.ne_of_gt lt5)]; exact hu5) hab5 hj5 hy5 ?_))
         rw [lk' k2 u k5 u5 j5 y5 hu (Nat.ne_of_lt lt2) hab5 hu5 hj5 hy5]
         exact anyR_mem hj2 hyr
     · intro v hv
       rcases mem_set_or hv with rfl | ⟨i, _, hi⟩
       · rw [List.length_set]; exact tl' u hmu
       · exact tl' v (Mg hi)
def dealtT (t : Team) (j : Nat) (x : Shr) : Team := { t with past := x.clock, l := t.l.set j (dealt x) }
/-- a deal: from the team k on, the names p, and the teams after it -/
inductive Deal : List Team -> Nat -> List Str -> List Team -> Prop
 | hand {tm k t j x} : tm[k]? = some t -> t.l[j]? = some x -> pick t.l Option.none = some x -> x.name ∉ tm.map (·.name) -> Deal tm k [x.name] (tm.set k (dealtT t j x))
 | team {tm k t j x k' t' p tm'} : tm[k]? = some t -> t.l[j]? = some x -> pick t.l Option.none = some x -> tm[k']? = some t' -> t'.name = x.name -> Deal (tm.set k (dealtT t j x)) k' p tm' -> Deal tm k (x.name :: p) tm'
theorem link_clock {tm : List Team} {ab : List (Str × Str)} (lk : Link tm ab fun _ => False) {k j : Nat} {t : Team} {x y : Shr} {p : Int} (hk : tm[k]? = some t) (hj : t.l[j]? = some x) (hy : y.name = x.name) (hr : y.ready = x.ready) : Link (tm.set k { t with past := p, l := t.l.set j y }) ab fun _ => False := by
 have at_ : ∀ (i : Nat) (u : Team), (tm.set k { t with past := p, l := t.l.set j y })[i]? = some u -> ∃ v : Team, tm[i]? = some v /\ v.name = u.name /\ anyR u.l = anyR v.l /\ ∀ (m : Nat) (z : Shr), u.l[m]? = some z -> ∃ z' : Shr, v.l[m]? = some z' /\ z'.name = z.name /\ z'.ready = z.ready := fun i u hu => by
  by_cases q : k = i
  · subst q
    rw [List.getElem?_set_self (Gs hk).1] at hu
    have := Oi hu
    subst this
    refine (iEAAA t hk rfl (anyR_same hj hr) (fun m z hz => ?_))
    have hz' : (t.l.set j y)[m]? = some z := hz
    by_cases qm : j = m
    · subst qm
      rw [List.getElem?_set_self (Gs hj).1] at hz'
      have := Oi hz'
      subst this
      exact (iEAA x hj hy.symm hr.symm)
    · rw [List.getElem?_set_ne qm] at hz'
      exact (iEAA z hz' rfl rfl)
  · rw [List.getElem?_set_ne q] at hu
    exact (iEAAA u hu rfl rfl (fun m z hz => (iEAA z hz rfl rfl)))
 intro k3 t3 k4 t4 i z h3 _ h34 h4 hi hz
 refine eEAAA (at_ k3 t3 h3) fun v3 a1 a2 a3 _ => ?_
 refine eEAAA (at_ k4 t4 h4) fun v4 b1 b2 _ b4 => ?_
 refine eEAA (b4 i z hi) fun z' c1 c2 c3 => ?_
 rw [a3, <- c3]
 exact lk k3 v3 k4 v4 i z' a1 (fun q => q) (by rw [a2, b2]; exact h34) b1 c1 (by rw [c2, hz, a2])
def ShT (tm : List Team) : Prop := ∀ t ∈ tm, t.l.length <= 1000000 /\ ∀ x ∈ t.l, 1 <= x.share /\ x.share <= 12
theorem ShT.set {tm : List Team} (h : ShT tm) {k j : Nat} {t : Team} {x y : Shr} {p : Int} (hk : tm[k]? = some t) (hj : t.l[j]? = some x) (hy : y.share = x.share) : ShT (tm.set k { t with past := p, l := t.l.set j y }) := fun u hu => by
 rcases mem_set_or hu with rfl | ⟨i, _, hi⟩
 · obtain ⟨h1, h2⟩ := h t (Mg hk)
   refine ⟨by rw [List.length_set]; exact h1, fun z hz => ?_⟩
   rcases mem_set_or hz with rfl | ⟨m, _, hm⟩
   · rw [hy]; exact h2 x (Mg hj)
   · exact h2 z (Mg hm)
 · exact h u (Mg hi)
/-- what a deal may change: the wheels of the house, by their tags -/
def KpT (gs : List Nat) (σ σ' : Hp) : Prop := ∀ a t o, σ a = some (t, o) -> t ∉ gs -> σ' a = some (t, o)
theorem gs_mem {tm tm1 : List Team} (s : Same tm tm1) {k : Nat} {u : Team} (hu : tm1[k]? = some u) : u.g ∈ tm.map (·.g) := by
 have hlt : k < tm.length := by rw [<- s.len]; exact (Gs hu).1
 refine eEAAAAA (s.at_ k tm[k] (List.getElem?_eq_getElem hlt)) fun t2 h2 _ _ _ g2 _ => ?_
 have : u = t2 := Oi (hu.symm.trans h2)
 rw [this, g2]
 exact Mn (iEA _ (List.getElem_mem hlt) rfl)
theorem KpT.kph {σ σ' : Hp} {H dw da : Nat} {tm : List Team} {ab : List (Str × Str)} (h : HouseD σ H dw da tm ab) (k : KpT (tm.map (·.g)) σ σ') : KpH σ σ' := fun a t o q m1 m100 => k a t o q fun hm => by
 refine eEA (Mm hm) fun u hu e => ?_
 have := h.gg u hu
 omega
theorem deal_noneT {H dw da : Nat} {tm : List Team} {ab : List (Str × Str)} {t : Team} (h : HouseD σ H dw da tm ab) (tr : Tree tm ab) (hs : ShT tm) (ht : tm[0]? = some t) (ha : anyR t.l = false)
 (hq : ∀ D σ', HouseD σ' H dw da tm ab -> KpT (tm.map (·.g)) σ σ' -> σ' D = some (9, .list []) -> Q (.ref D) σ') : WFn (cx w mean mg mb) ⟨n + 4, true, sc⟩ m_House_deal [.ref H] ρ Q X σ := by
 have hmt := Mg ht
 have etop : t.name = "" := by
  refine eEA tr.root fun t2 e1 e2 => ?_
  have : t = t2 := Oi (ht.symm.trans e1)
  rw [this]; exact e2
 refine WFn.fn1 (p1 := "self") (FnAt.of1 (rfl : (Mine.hd.heap_39 w.params).lookup m_House_deal = _) (by kernel_rfl) (fun _ => rfl) (by kernel_rfl)) ?_
 refine Wc (WS.assign (fun _ _ _ => rfl) (WE.list 9 ?_))
 refine WEs.nil (⟨by simp, fun F hF => ?_⟩)
 have h1 := h.ext (σ' := σ.put F 9 (.list [])) fun a p q => Hp.new hF.none q
 have k1 : KpT (tm.map (·.g)) σ (σ.put F 9 (.list [])) := fun a t' o q _ => Hp.new hF.none q
 generalize σ.put F 9 (.list []) = σ1 at h1 k1 ⊢
 clear hF
 refine Wl (by kernel_rfl) ?_
 refine WSs.assignP (fun _ _ _ => rfl) (PE.globalA (by kernel_rfl) g_TOP) (by kernel_rfl) ?_
 refine Wc ?_
 refine WS.while (fun kk ρ' σ' => σ' = σ1 /\ ρ' "self" = some (.ref H) /\ ρ' "team" = some (.str t.name)) 0 (iA2 rfl (by walk_at "lk") (by rw [etop]; walk_at "lk")) ?_
 rintro kk ρ' σ' ⟨rfl, r0, r1⟩
 have hH := h1.hou
 have hd := h1.dws
 have hgt := getK_team h1 hmt
 have hwt := h1.whl t hmt
 have hW : σ' t.W = some (t.g, .inst a_Wheel [("past", .int t.past), ("sharers", .ref t.d)]) := hwt.whl
 have hgg := h1.gg t hmt
 refine WT.cmp1 rfl (WE.lo ?_)
 refine PE.use (PE.at PL ‹_› lk_head) ?_
 refine WC.inS_t ‹_› ‹_› ?_
 refine Wb (if_tt (Wc (WS.assign (fun _ _ _ => rfl) (WE.mp (PE.sub (PE.at PL ‹_› lk_head) PL (PI.sdict (fun _ _ => rfl) ‹_› ‹_›)) ‹_› ms_Wheel_turn PN ?_))))
 refine Wf (turn_none_c hwt (hs t hmt).1 (pick_no ha) fun σ2 h2 o2 => ?_)
 have hh := h1.one (t' := t) ht rfl rfl rfl h2 o2
 rw [set_same ht] at hh
 refine Wl (by kernel_rfl) ?_
 refine Wc (WS.ite (WT.cmp1 rfl (WE.lo ?_)))
 refine WE.none (WC.isNN ?_)
 refine Wb (if_tt (Wc (WS.ret (WE.list 9 ?_))))
 refine WEs.nil (⟨by simp, fun D hD => ?_⟩)
 exact hq D _ (hh.ext fun a p q => Hp.new hD.none q) (fun a t' o q m1 => Hp.new hD.none (o2.at (k1 a t' o q m1) fun e => m1 (e ▸ Mn (iEA t hmt rfl)))) Hp.self
theorem deal_cT {H dw da : Nat} {tm : List Team} {ab : List (Str × Str)} {t : Team} (h : HouseD σ H dw da tm ab) (tr : Tree tm ab) (lk : Link tm ab fun _ => False) (hs : ShT tm) (ht : tm[0]? = some t) (ha : anyR t.l = true) (hz : tm.length <= 100000)
 (hq : ∀ D p tm' σ', HouseD σ' H dw da tm' ab -> KpT (tm.map (·.g)) σ σ' -> σ' D = some (9, .list (p.map .str)) -> Deal tm 0 p tm' -> Same tm tm' -> Link tm' ab (fun _ => False) -> ShT tm' -> Q (.ref D) σ') : WFn (cx w mean mg mb) ⟨n + 4, true, sc⟩ m_House_deal [.ref H] ρ Q X σ := by
 have hmt := Mg ht
 have etop : t.name = "" := by
  refine eEA tr.root fun t2 e1 e2 => ?_
  have : t = t2 := Oi (ht.symm.trans e1)
  rw [this]; exact e2
 refine WFn.fn1 (p1 := "self") (FnAt.of1 (rfl : (Mine.hd.heap_39 w.params).lookup m_House_deal = _) (by kernel_rfl) (fun _ => rfl) (by kernel_rfl)) ?_
 refine Wc (WS.assign (fun _ _ _ => rfl) (WE.list 9 ?_))
 refine WEs.nil (⟨by simp, fun F hF => ?_⟩)
 have h1 := h.ext (σ' := σ.put F 9 (.list [])) fun a p q => Hp.new hF.none q
 have k1 : KpT (tm.map (·.g)) σ (σ.put F 9 (.list [])) := fun a t' o q _ => Hp.new hF.none q
 have f1 : (σ.put F 9 (.list [])) F = some (9, .list []) := Hp.self
 have nF : σ F = Option.none := hF.none
 generalize σ.put F 9 (.list []) = σ1 at h1 k1 f1 ⊢
 clear hF
 refine Wl (by kernel_rfl) ?_
 refine WSs.assignP (fun _ _ _ => rfl) (PE.globalA (by kernel_rfl) g_TOP) (by kernel_rfl) ?_
 refine Wc ?_
 refine WS.whileO (fun m ρ' σ' => ∃ tm1 pre, HouseD σ' H dw da tm1 ab /\ KpT (tm.map (·.g)) σ σ' /\ Same tm tm1 /\ Link tm1 ab (fun _ => False) /\ ShT tm1 /\ σ' F = some (9, .list (pre.map .str)) /\ pre.length <= 100000 /\ ρ' "self" = some (.ref H) /\ ρ' "found" = some (.ref F) /\ ((∃ (k : Nat) (u : Team), tm1[k]? = some u /\ anyR u.l = true /\ ρ' "team" = some (.str u.name) /\ m = tm.length - k /\ pre.length <= k /\ ∀ p tm', Deal tm1 k p tm' -> Deal tm 0 (pre ++ p) tm') ∨ ∃ nm, ρ' "team" = some (.str nm) /\ nm ∉ tm.map (·.name) /\ Deal tm 0 pre tm1)) tm.length (iE2 tm ([]) (iA9 h1 k1 (Same.refl tm) lk hs f1 (Nat.zero_le _) (by walk_at "lk") (by walk_at "lk") (.inl (iE2 0 t (iA5 ht ha (by rw [etop]; walk_at "lk") rfl (Nat.zero_le _) (fun p tm' d => d)))))) ?_
 rintro m ρ' σ' ⟨tm1, pre, hh, kp, sm, lk1, hs1, hF, hpl, r0, r1, hor⟩
 intro KL hKL hKB hKR
 have hH := hh.hou
 have hd := hh.dws
 have tr1 := tr.same sm
 rcases hor with ⟨k, u, hu, ar, r2, hm, hpk, hcont⟩ | ⟨nm, r2, hno, hdone⟩
 · have hmu := Mg hu
   have hgu := getK_team hh hmu
   have hwu := hh.whl u hmu
   have hWu : σ' u.W = some (u.g, .inst a_Wheel [("past", .int u.past), ("sharers", .ref u.d)]) := hwu.whl
   have hgg := hh.gg u hmu
   have hkl : k < tm.length := by rw [<- sm.len]; exact (Gs hu).1
   obtain ⟨x, hx⟩ := Option.isSome_iff_exists.mp (pick_some (l := u.l) (f := Option.none) (.inl ar))
   obtain ⟨hxm, hxr⟩ : x ∈ u.l /\ x.ready = true := by
    rcases pick_mem hx with q | q
    · exact q
    · exact nomatch q
   obtain ⟨j, hj⟩ := Mi hxm
   obtain ⟨s0, s1⟩ := (hs1 u hmu).2 x hxm
   have hnn : (MV.str x.name).isNone = false := rfl
   refine WT.cmp1 rfl (WE.lo ?_)
   refine PE.use (PE.at PL ‹_› lk_head) ?_
   refine WC.inS_t ‹_› ‹_› ?_
   refine Wb (if_tt (Wc (WS.assign (fun _ _ _ => rfl) (WE.mp (PE.sub (PE.at PL ‹_› lk_head) PL (PI.sdict (fun _ _ => rfl) ‹_› ‹_›)) ‹_› ms_Wheel_turn PN ?_))))
   refine Wf (turn_c hwu (hs1 u hmu).1 hj hx s0 s1 fun σ2 h2 o2 => ?_)
   have hh2 := hh.one (t' := dealtT u j x) hu rfl rfl rfl h2 o2
   have k2 : KpT (tm.map (·.g)) σ σ2 := fun a t' o q m1 => o2.at (kp a t' o q m1) fun e => m1 (e ▸ gs_mem sm hu)
   have hF2 := o2.at hF (by omega)
   have sm2 : Same tm (tm1.set k (dealtT u j x)) := sm.trans (Same.set hu (iA4 rfl rfl rfl rfl (set_nsh (y := dealt x) hj rfl rfl)))
   have lk2 : Link (tm1.set k (dealtT u j x)) ab fun _ => False := link_clock lk1 (y := dealt x) hu hj rfl rfl
   have hs2 : ShT (tm1.set k (dealtT u j x)) := hs1.set (y := dealt x) hu hj rfl
   refine Wl (by kernel_rfl) ?_
   refine Wc (WS.ite (WT.cmp1 rfl (WE.lo ?_)))
   refine WE.none (WC.isNS ?_)
   refine Wb (if_ff (Wn (Wc (WS.expr (fun _ _ _ => rfl) (WE.method (fun _ _ => rfl) rfl rfl rfl (WE.lo ?_))))))
   refine WM.listAppend hF2 ?_
   refine And.intro (Callee.con rfl) (PEs.use (Po PL PN) ?_)
   refine WCall.append hF2 (by rw [List.length_map]; omega) ?_
   have hh3 : HouseD (σ2.put F 9 (.list (pre.map .str ++ [.str x.name]))) H dw da (tm1.set k (dealtT u j x)) ab := hh2.keep (fun q => Hp.tag hF2 (by decide) q) (fun q m100 => Hp.tag hF2 (by omega) q)
   have hF3 : (σ2.put F 9 (.list (pre.map .str ++ [.str x.name]))) F = some (9, .list ((pre ++ [x.name]).map .str)) := by rw [List.map_append]; exact Hp.self
   have k3 : KpT (tm.map (·.g)) σ (σ2.put F 9 (.list (pre.map .str ++ [.str x.name]))) := fun a t' o q m1 => Hp.ne (fun e => by rw [e, nF] at q; exact nomatch q) (k2 a t' o q m1)
   generalize σ2.put F 9 (.list (pre.map .str ++ [.str x.name])) = σ3 at hh3 hF3 k3 ⊢
   refine WSs.assignP (fun _ _ _ => rfl) PL (by kernel_rfl) ?_
   refine Wn ?_
   by_cases hin : x.name ∈ tm1.map (·.name)
   · refine eEA (Mm hin) fun v hv ev => ?_
     obtain ⟨k', hk'⟩ := Mi hv
     have hab := tr1.mem k u j x hu hj
     have kpos : k < k' := by
      have : 0 < k' := Nat.pos_of_ne_zero fun q => by
       subst q
       refine eEA tr1.root fun t2 e1 e2 => ?_
       have : v = t2 := Oi (hk'.symm.trans e1)
       subst this
       exact tr1.top (Mn (iEA _ hab (by rw [<- ev, e2])))
      refine eEEEEAAAA (tr1.up k' v hk' this) fun k5 u5 j5 y5 lt5 hu5 _ hj5 hy5 => ?_
      have := uniq tr1 hh.an hh.tn hu hj hu5 hj5 (by rw [hy5, ev])
      omega
     have hk2 : (tm1.set k (dealtT u j x))[k']? = some v := by rw [List.getElem?_set_ne (Nat.ne_of_lt kpos)]; exact hk'
     have hkl' : k' < tm.length := by rw [<- sm.len]; exact (Gs hk').1
     have av : anyR v.l = true := by rw [<- lk1 k' v k u j x hk' (fun q => q) (by rw [ev]; exact hab) hu hj ev.symm]; exact hxr
     exact hKL _ _ (tm.length - k') (by omega) ⟨_, pre ++ [x.name], hh3, k3, sm2, lk2, hs2, hF3, by rw [List.length_append]; simp; omega, by walk_at "lk", by walk_at "lk", .inl ⟨k', v, hk2, av, by rw [ev]; walk_at "lk", rfl, by rw [List.length_append]; simp; omega, fun p tm' d => by
      rw [List.append_assoc]
      exact hcont _ _ (Deal.team hu hj hx hk' ev d)⟩⟩
   · refine hKL _ _ (0) (by omega) (iE2 _ (pre ++ [x.name]) (iA9 hh3 k3 sm2 lk2 hs2 hF3 (by rw [List.length_append]; simp; omega) (by walk_at "lk") (by walk_at "lk") (.inr (iEAA x.name (by walk_at "lk") (by rw [<- sm.names]; exact hin) (hcont _ _ (Deal.hand hu hj hx hin))))))
 · have hg := getK_noteam (tm := tm1) (nm := nm) (by rw [sm.names]; exact hno)
   refine WT.cmp1 rfl (WE.lo ?_)
   refine PE.use (PE.at PL ‹_› lk_head) ?_
   refine WC.inS_f ‹_› ‹_› ?_
   refine Wb (if_ff (WSs.retP PL ?_))
   exact hq F pre tm1 σ' hh kp hF hdone sm lk1 hs1
def coreT (t : Team) : Str × Int × List (Str × Int × Int × Bool) := (t.name, t.past, t.l.map core)
theorem coreT_names {tm tm' : List Team} (h : tm'.map coreT = tm.map coreT) : tm'.map (·.name) = tm.map (·.name) := by
 have := congrArg (List.map (·.1)) h
 rw [List.map_map, List.map_map] at this
 exact this
theorem core_at {l l' : List Shr} (h : l'.map core = l.map core) {k : Nat} {x : Shr} (hk : l[k]? = some x) : ∃ x', l'[k]? = some x' /\ core x' = core x := by
 have e : (l'.map core)[k]? = some (core x) := by rw [h, List.getElem?_map, hk]; rfl
 rw [List.getElem?_map] at e
 refine eEA (Option.map_eq_some_iff.mp e) fun x' h1 h2 => ?_
 exact (iEA x' h1 h2)
theorem pick_core : ∀ {l l' : List Shr} {f f' : Option Shr}, l'.map core = l.map core -> f'.map core = f.map core -> (pick l' f').map core = (pick l f).map core
 | [], [], _, _, _, h => h
 | [], _ :: _, _, _, h, _ => nomatch h
 | _ :: _, [], _, _, h, _ => nomatch h
 | x :: l, y :: l', f, f', h, hf => by
  rw [List.map_cons, List.map_cons] at h
  obtain ⟨h1, h2⟩ := List.cons.inj h
  have er : y.ready = x.ready := congrArg (·.2.2.2) h1
  have ec : y.clock = x.clock := congrArg (·.2.2.1) h1
  have e : better y f' = better x f := by
   cases f with
   | none =>
    cases f' with
    | none => rfl
    | some z => exact nomatch hf
   | some u =>
    cases f' with
    | none => exact nomatch hf
    | some z =>
     have eu : z.clock = u.clock := congrArg (·.2.2.1) (Oi hf)
     simp only [better, ec, eu]
  simp only [pick, er, e]
  refine pick_core h2 ?_
  split
  · exact congrArg some h1
  · exact hf
theorem pick_at {l l' : List Shr} (nd : (l'.map (·.name)).Nodup) (h : l'.map core = l.map core) {j : Nat} {x : Shr} (hj : l[j]? = some x) (hp : pick l Option.none = some x) : ∃ x', l'[j]? = some x' /\ pick l' Option.none = some x' /\ core x' = core x := by
 have hc := pick_core (f := Option.none) (f' := Option.none) h rfl
 rw [hp] at hc
 refine eEA (Option.map_eq_some_iff.mp hc) fun z hz ez => ?_
 refine eEA (core_at h hj) fun x' hk' ex => ?_
 have hm : z ∈ l' := by
  rcases pick_mem hz with q | q
  · exact q.1
  · exact nomatch q
 obtain ⟨i, hi⟩ := Mi hm
 have en : z.name = x'.name := (congrArg (·.1) ez).trans (congrArg (·.1) ex).symm
 have hij := nodup_at nd hi hk' en
 rw [hij, hk'] at hi
 have e2 := Oi hi
 subst e2
 exact (iEAA x' hk' hz ex)
theorem core_dealt {x y : Shr} (h : core x = core y) : core (dealt x) = core (dealt y) := by
 have e1 : x.name = y.name := congrArg (·.1) h
 have e2 : x.share = y.share := congrArg (·.2.1) h
 have e3 : x.clock = y.clock := congrArg (·.2.2.1) h
 have e4 : x.ready = y.ready := congrArg (·.2.2.2) h
 unfold core dealt
 dsimp only
 rw [e1, e2, e3, e4]
theorem coreT_at {tm tm' : List Team} (h : tm'.map coreT = tm.map coreT) {k : Nat} {t : Team} (hk : tm[k]? = some t) : ∃ t', tm'[k]? = some t' /\ coreT t' = coreT t := by
 have e : (tm'.map coreT)[k]? = some (coreT t) := by rw [h, List.getElem?_map, hk]; rfl
 rw [List.getElem?_map] at e
 refine eEA (Option.map_eq_some_iff.mp e) fun x' h1 h2 => ?_
 exact (iEA x' h1 h2)
/-- the names are unlike -/
structure Ndp (tm : List Team) : Prop where
 tn : (tm.map (·.name)).Nodup
 nn : ∀ t ∈ tm, (t.l.map (·.name)).Nodup
theorem HouseD.ndp {σ : Hp} {H dw da : Nat} {tm : List Team} {ab : List (Str × Str)} (h : HouseD σ H dw da tm ab) : Ndp tm := ⟨h.tn, fun t ht => (h.whl t ht).nn⟩
theorem Ndp.set {tm : List Team} {k j : Nat} {t : Team} {x : Shr} (h : Ndp tm) (hk : tm[k]? = some t) (hj : t.l[j]? = some x) : Ndp (tm.set k (dealtT t j x)) := by
 refine ⟨by rw [map_set_same (fun v : Team => v.name) (y := dealtT t j x) hk rfl]; exact h.tn, fun u hu => ?_⟩
 rcases mem_set_or hu with rfl | ⟨i, _, hi⟩
 · show ((t.l.set j (dealt x)).map (·.name)).Nodup
   rw [map_set_same (fun v : Shr => v.name) (y := dealt x) hj rfl]; exact h.nn t (Mg hk)
 · exact h.nn u (Mg hi)
theorem coreT_dealt {t t' : Team} {j : Nat} {x x' : Shr} (h : coreT t' = coreT t) (e : core x' = core x) : coreT (dealtT t' j x') = coreT (dealtT t j x) := by
 have e1 : t'.name = t.name := congrArg (·.1) h
 have e2 : t'.l.map core = t.l.map core := congrArg (·.2.2) h
 have e3 : x'.clock = x.clock := congrArg (·.2.2.1) e
 unfold coreT dealtT
 dsimp only
 rw [e1, e3, map_set', map_set', e2, core_dealt e]
/-- what a deal does hangs on the cores alone -/
theorem deal_det {tm tm1 : List Team} {k : Nat} {p : List Str} (d : Deal tm k p tm1) : ∀ {tm2 tm3 : List Team} {p2 : List Str}, tm2.map coreT = tm.map coreT -> Ndp tm -> Ndp tm2 -> Deal tm2 k p2 tm3 -> p2 = p /\ tm3.map coreT = tm1.map coreT := by
 induction d with
 | @hand tm k t j x h1 h2 h3 h4 =>
  intro tm2 tm3 p2 hc n1 n2 d2
  refine eEA (coreT_at hc h1) fun t2 a1 a2 => ?_
  refine eEAA (pick_at (n2.nn t2 (Mg a1)) (congrArg (·.2.2) a2) h2 h3) fun x' b1 b2 b3 => ?_
  have bn : x'.name = x.name := congrArg (·.1) b3
  cases d2 with
  | @hand _ _ t5 j5 x5 c1 c2 c3 c4 =>
   have : t5 = t2 := Oi (c1.symm.trans a1)
   subst this
   have : x5 = x' := Oi (c3.symm.trans b2)
   subst this
   have := nodup_at (n2.nn t5 (Mg a1)) c2 b1 rfl
   subst this
   exact ⟨by rw [bn], by rw [map_set', map_set', hc, coreT_dealt a2 b3]⟩
  | @team _ _ t5 j5 x5 k6 t6 p6 _ c1 c2 c3 c4 c5 c6 =>
   have : t5 = t2 := Oi (c1.symm.trans a1)
   subst this
   have : x5 = x' := Oi (c3.symm.trans b2)
   subst this
   refine absurd ?_ h4
   rw [<- coreT_names hc, <- bn, <- c5]
   exact Mn (iEA t6 (Mg c4) rfl)
 | @team tm k t j x k' t' p tm' h1 h2 h3 h4 h5 d ih =>
  intro tm2 tm3 p2 hc n1 n2 d2
  refine eEA (coreT_at hc h1) fun t2 a1 a2 => ?_
  refine eEAA (pick_at (n2.nn t2 (Mg a1)) (congrArg (·.2.2) a2) h2 h3) fun x' b1 b2 b3 => ?_
  have bn : x'.name = x.name := congrArg (·.1) b3
  cases d2 with
  | @hand _ _ t5 j5 x5 c1 c2 c3 c4 =>
   have : t5 = t2 := Oi (c1.symm.trans a1)
   subst this
   have : x5 = x' := Oi (c3.symm.trans b2)
   subst this
   refine absurd ?_ c4
   rw [coreT_names hc, bn, <- h5]
   exact Mn (iEA t' (Mg h4) rfl)
  | @team _ _ t5 j5 x5 k6 t6 p6 _ c1 c2 c3 c4 c5 c6 =>
   have : t5 = t2 := Oi (c1.symm.trans a1)
   subst this
   have : x5 = x' := Oi (c3.symm.trans b2)
   subst this
   have := nodup_at (n2.nn t5 (Mg a1)) c2 b1 rfl
   subst this
   refine eEA (coreT_at hc h4) fun t7 e1 e2 => ?_
   have e3 : t7.name = t'.name := congrArg (·.1) e2
   have := nodup_at n2.tn c4 e1 (by rw [c5, e3, h5, bn])
   subst this
   obtain ⟨q1, q2⟩ := ih (tm2 := tm2.set k (dealtT t5 j5 x5)) (by rw [map_set', map_set', hc, coreT_dealt a2 b3]) (n1.set h1 h2) (n2.set c1 c2) c6
   exact ⟨by rw [bn, q1], q2⟩
/-- one deal, or nobody -/
def Step (tm : List Team) (p : List Str) (tm' : List Team) : Prop := (∃ t : Team, tm[0]? = some t /\ ((anyR t.l = false /\ p = [] /\ tm' = tm) ∨ (anyR t.l = true /\ Deal tm 0 p tm')))
theorem anyR_core {l l' : List Shr} (h : l'.map core = l.map core) : anyR l' = anyR l := by
 have : ∀ m : List Shr, anyR m = (m.map core).any (·.2.2.2) := fun m => by unfold anyR; rw [List.any_map]; rfl
 rw [this, this, h]
theorem step_det {tm tm1 tm2 tm3 : List Team} {p p2 : List Str} (d : Step tm p tm1) (hc : tm2.map coreT = tm.map coreT) (n1 : Ndp tm) (n2 : Ndp tm2) (d2 : Step tm2 p2 tm3) : p2 = p /\ tm3.map coreT = tm1.map coreT := by
 refine eEA d fun t h0 h => ?_; clear d
 refine eEA d2 fun t2 h02 h2 => ?_; clear d2
 refine eEA (coreT_at hc h0) fun t3 a1 a2 => ?_
 have : t3 = t2 := Oi (a1.symm.trans h02)
 subst this
 have er := anyR_core (congrArg (·.2.2) a2)
 rcases h with ⟨b1, rfl, rfl⟩ | ⟨b1, b2⟩ <;> rcases h2 with ⟨c1, rfl, rfl⟩ | ⟨c1, c2⟩
 · exact ⟨rfl, hc⟩
 · rw [er, b1] at c1; exact nomatch c1
 · rw [er, b1] at c1; exact nomatch c1
 · exact deal_det b2 hc n1 n2 c2
theorem filter_erase {tm : List Team} (tn : (tm.map (·.name)).Nodup) {i : Nat} {u : Team} (hi : tm[i]? = some u) : (tm.filter fun v => decide (v.name ≠ u.name)) = tm.eraseIdx i := by
 induction tm generalizing i with
 | nil => simp at hi
 | cons y tm ih =>
  rw [List.map_cons, List.nodup_cons] at tn
  cases i with
  | zero =>
   simp at hi; subst hi
   rw [List.filter_cons, if_neg (by simp), List.eraseIdx_cons_zero]
   refine List.filter_eq_self.mpr fun v hv => decide_eq_true fun e => tn.1 (by rw [<- e]; exact Mn (iEA v hv rfl))
  | succ i =>
   simp only [List.getElem?_cons_succ] at hi
   have hne : y.name ≠ u.name := fun e => tn.1 (by rw [e]; exact Mn (iEA u (Mg hi) rfl))
   rw [List.filter_cons, if_pos (decide_eq_true hne), List.eraseIdx_cons_succ, ih tn.2 hi]
/-- what a way up leaves, however it is gone -/
structure Chg (g : Int -> Shr -> Shr) (x : Str) (b : Bool) (tm tm' : List Team) (ab : List (Str × Str)) : Prop where
 u : Upd g tm tm'
 s : Same tm tm'
 hd : Hands (tm.map (·.name)) (fun n c => if n = x then b else c) tm tm'
 lk : Link tm' ab fun _ => False
/-- what the change of one entry is like -/
structure GOk (g : Int -> Shr -> Shr) (b : Bool) : Prop where
 idle : ∀ p y, y.ready = b -> g p y = y
 rdy : ∀ p y, (g p y).ready = b
 core : ∀ p y z, core y = core z -> core (g p y) = core (g p z)
theorem gok_wake : GOk woken true := ⟨fun p y h => by unfold woken; rw [if_pos h], fun p y => woken_ready, fun p y z h => by
 have e1 : y.name = z.name := congrArg (·.1) h
 have e2 : y.share = z.share := congrArg (·.2.1) h
 have e3 : y.clock = z.clock := congrArg (·.2.2.1) h
 have e4 : y.ready = z.ready := congrArg (·.2.2.2) h
 unfold woken core
 rw [e4]
 split
 · simp only [e1, e2, e3, e4]
 · simp only [e1, e2, e3]⟩
theorem gok_rest : GOk rested false := ⟨fun p y h => by unfold rested; cases y; simp at h; subst h; rfl, fun p y => rfl, fun p y z h => by
 have e1 : y.name = z.name := congrArg (·.1) h
 have e2 : y.share = z.share := congrArg (·.2.1) h
 have e3 : y.clock = z.clock := congrArg (·.2.2.1) h
 unfold rested core
 dsimp only
 rw [e1, e2, e3]⟩
theorem any_rdy {l l' : List Shr} (hl : l'.length = l.length) (h : ∀ (j : Nat) (y y' : Shr), l[j]? = some y -> l'[j]? = some y' -> y'.ready = y.ready) : anyR l' = anyR l := by
 have e : l'.map (·.ready) = l.map (·.ready) := by
  refine List.ext_getElem? fun j => ?_
  rw [List.getElem?_map, List.getElem?_map]
  by_cases q : j < l.length
  · have q' : j < l'.length := by omega
    rw [List.getElem?_eq_getElem q, List.getElem?_eq_getElem q']
    exact congrArg some (h j _ _ (List.getElem?_eq_getElem q) (List.getElem?_eq_getElem q'))
  · rw [List.getElem?_eq_none (by omega), List.getElem?_eq_none (by omega)]
 have : ∀ m : List Shr, anyR m = (m.map (·.ready)).any id := fun m => by unfold anyR; rw [List.any_map]; rfl
 rw [this, this, e]
theorem nsh_len {l l' : List Shr} (h : l'.map nsh = l.map nsh) : l'.length = l.length := by
 have := congrArg List.length h
 rwa [List.length_map, List.length_map] at this
theorem chg_rdy {g : Int -> Shr -> Shr} {x : Str} {b : Bool} {tm tm' tn tn' : List Team} {ab : List (Str × Str)} (tr : Tree tm ab) (an : (ab.map (·.1)).Nodup) (nn : (tm.map (·.name)).Nodup) (hc : tn.map coreT = tm.map coreT) (c1 : Chg g x b tm tm' ab) (c2 : Chg g x b tn tn' ab) : ∀ (d k : Nat), tm.length - k = d -> ∀ (t' u' : Team) (j : Nat) (y' z' : Shr), tm'[k]? = some t' -> tn'[k]? = some u' -> t'.l[j]? = some y' -> u'.l[j]? = some z' -> z'.ready = y'.ready := by
 intro d
 induction d using Nat.strongRecOn with
 | ind d ih =>
  intro k hd t' u' j y' z' ht hu hy hz
  refine eEAA (c1.s.back ht) fun t at1 at2 at3 => ?_
  refine eEAA (c2.s.back hu) fun u bu1 bu2 bu3 => ?_
  refine eEA (coreT_at hc at1) fun t0 cc1 cc2 => ?_
  have : t0 = u := Oi (cc1.symm.trans bu1)
  subst this
  refine eEAA (rows_at at3.symm hy) fun y hy0 ny _ => ?_
  refine eEAA (rows_at bu3.symm hz) fun z hz0 nz _ => ?_
  refine eEA (core_at (congrArg (·.2.2) cc2) hy0) fun z1 hz1 cz => ?_
  have : z1 = z := Oi (hz1.symm.trans hz0)
  subst this
  have ezn : z1.name = y.name := congrArg (·.1) cz
  have ezr : z1.ready = y.ready := congrArg (·.2.2.2) cz
  have kl := (Gs at1).1
  by_cases hn : y.name ∈ tm.map (·.name)
  · refine eEA (Mm hn) fun v hv ev => ?_
    obtain ⟨k', hk'⟩ := Mi hv
    have k'l := (Gs hk').1
    have hab := tr.mem k t j y at1 hy0
    have pos : 0 < k' := Nat.pos_of_ne_zero fun q => by
     subst q
     refine eEA tr.root fun t2 e1 e2 => ?_
     have : v = t2 := Oi (hk'.symm.trans e1)
     subst this
     exact tr.top (Mn (iEA _ hab (by rw [<- ev, e2])))
    refine eEEEEAAAA (tr.up k' v hk' pos) fun k5 u5 j5 y5 lt5 hu5 _ hj5 hy5 => ?_
    have := uniq tr an nn at1 hy0 hu5 hj5 (by rw [hy5, ev])
    subst this
    refine eEAAAAA (c1.s.at_ k' v hk') fun v' v1 v2 _ _ _ v6 => ?_
    refine eEA (coreT_at hc hk') fun w w1 w2 => ?_
    refine eEAAAAA (c2.s.at_ k' w w1) fun w' x1 x2 _ _ _ x6 => ?_
    have wn : w.name = v.name := congrArg (·.1) w2
    have ww : w.l.map core = v.l.map core := congrArg (·.2.2) w2
    have len1 : w'.l.length = v'.l.length := by
     rw [nsh_len x6, nsh_len v6]
     have := congrArg List.length ww
     rwa [List.length_map, List.length_map] at this
    have ar : anyR w'.l = anyR v'.l := any_rdy len1 fun j2 a a' ha ha' => ih (tm.length - k') (by omega) k' rfl v' w' j2 a a' v1 x1 ha ha'
    have r1 := c1.lk k' v' k t' j y' v1 (fun q => q) (by rw [v2, at2, ev]; exact hab) ht hy (by rw [<- ny, v2, ev])
    have r2 := c2.lk k' w' k u' j z' x1 (fun q => q) (by rw [x2, wn, bu2, show t0.name = t.name from congrArg (·.1) cc2, ev]; exact hab) hu hz (by rw [<- nz, ezn, x2, wn, ev])
    rw [r1, r2, ar]
  · refine eEEAAA (c1.hd k t j y at1 hy0 hn) fun t2 y2 d1 d2 _ d4 => ?_
    have : t2 = t' := Oi (d1.symm.trans ht)
    subst this
    have : y2 = y' := Oi (d2.symm.trans hy)
    subst this
    refine eEEAAA (c2.hd k t0 j z1 bu1 hz0 (by rw [ezn, coreT_names hc]; exact hn)) fun u2 z2 f1 f2 _ f4 => ?_
    have : u2 = u' := Oi (f1.symm.trans hu)
    subst this
    have : z2 = z' := Oi (f2.symm.trans hz)
    subst this
    rw [d4, f4, ezn, ezr]
theorem map_ext {α β : Type} {f : α -> β} {l l' : List α} (hl : l'.length = l.length) (h : ∀ (k : Nat) (a a' : α), l[k]? = some a -> l'[k]? = some a' -> f a' = f a) : l'.map f = l.map f := by
 refine List.ext_getElem? fun j => ?_
 rw [List.getElem?_map, List.getElem?_map]
 by_cases q : j < l.length
 · have q' : j < l'.length := by omega
   rw [List.getElem?_eq_getElem q, List.getElem?_eq_getElem q']
   exact congrArg some (h j _ _ (List.getElem?_eq_getElem q) (List.getElem?_eq_getElem q'))
 · rw [List.getElem?_eq_none (by omega), List.getElem?_eq_none (by omega)]
/-- the change hangs on the cores alone -/
theorem chg_det {g : Int -> Shr -> Shr} {x : Str} {b : Bool} {tm tm' tn tn' : List Team} {ab : List (Str × Str)} (gok : GOk g b) (tr : Tree tm ab) (an : (ab.map (·.1)).Nodup) (nn : (tm.map (·.name)).Nodup) (hc : tn.map coreT = tm.map coreT) (c1 : Chg g x b tm tm' ab) (c2 : Chg g x b tn tn' ab) : tn'.map coreT = tm'.map coreT := by
 have hl : tn.length = tm.length := by have := congrArg List.length hc; rwa [List.length_map, List.length_map] at this
 refine map_ext (by rw [c2.s.len, c1.s.len, hl]) fun k t' u' ht hu => ?_
 refine eEAA (c1.s.back ht) fun t at1 at2 at3 => ?_
 refine eEAA (c2.s.back hu) fun u bu1 bu2 bu3 => ?_
 refine eEA (coreT_at hc at1) fun t0 cc1 cc2 => ?_
 have : t0 = u := Oi (cc1.symm.trans bu1)
 subst this
 refine eEAA (c1.u k t at1) fun t2 ut1 ut2 ut3 => ?_
 have : t2 = t' := Oi (ut1.symm.trans ht)
 subst this
 refine eEAA (c2.u k t0 bu1) fun u2 uu1 uu2 uu3 => ?_
 have : u2 = u' := Oi (uu1.symm.trans hu)
 subst this
 have en : t0.name = t.name := congrArg (·.1) cc2
 have ep : t0.past = t.past := congrArg (·.2.1) cc2
 have el : t0.l.map core = t.l.map core := congrArg (·.2.2) cc2
 have len0 : t0.l.length = t.l.length := by have := congrArg List.length el; rwa [List.length_map, List.length_map] at this
 have lm : u2.l.map core = t2.l.map core := map_ext (by rw [nsh_len bu3, nsh_len at3, len0]) fun j y' z' hy hz => by
  refine eEAA (rows_at at3.symm hy) fun y hy0 _ _ => ?_
  refine eEAA (rows_at bu3.symm hz) fun z hz0 _ _ => ?_
  refine eEA (core_at el hy0) fun z1 hz1 cz => ?_
  have : z1 = z := Oi (hz1.symm.trans hz0)
  subst this
  refine eEA (ut3 j y hy0) fun y2 hy2 qy => ?_
  have : y2 = y' := Oi (hy2.symm.trans hy)
  subst this
  refine eEA (uu3 j z1 hz0) fun z2 hz2 qz => ?_
  have : z2 = z' := Oi (hz2.symm.trans hz)
  subst this
  have er := chg_rdy tr an nn hc c1 c2 _ k rfl t2 u2 j y2 z2 ht hu hy hz
  have ezr : z1.ready = y.ready := congrArg (·.2.2.2) cz
  by_cases hb : y.ready = b
  · have e1 : y2 = y := by
     rcases qy with q | q
     · exact q
     · rw [q]; exact gok.idle _ _ hb
    have e2 : z2 = z1 := by
     rcases qz with q | q
     · exact q
     · rw [q]; exact gok.idle _ _ (by rw [ezr]; exact hb)
    rw [e1, e2]; exact cz
  · rcases qy with q | q
    · rcases qz with q' | q'
      · rw [q, q']; exact cz
      · rw [q, q', gok.rdy] at er
        exact absurd er.symm hb
    · rcases qz with q' | q'
      · rw [q, q', gok.rdy, ezr] at er
        exact absurd er hb
      · rw [q, q', ep]
        exact gok.core _ _ _ cz
 unfold coreT
 rw [bu2, at2, en, uu2, ut2, ep, lm]
def Let (x : Str) : Prop := ∀ c ∈ x.cps.toList, 97 <= c /\ c <= 122
theorem app_list (a b : Str) : (a ++ b).cps.toList = a.cps.toList ++ b.cps.toList := Array.toList_append
theorem app_len (a b : Str) : (a ++ b).length = a.length + b.length := Array.size_append
theorem Let.app {a b : Str} (h : Let a) (k : Let b) : Let (a ++ b) := fun c hc => by
 rw [app_list] at hc
 rcases List.mem_append.mp hc with q | q
 · exact h c q
 · exact k c q
theorem repS_list (a n : Nat) : (repS ⟨#[a]⟩ n).cps.toList = List.replicate n a := by
 show ((List.replicate n #[a]).foldl (· ++ ·) #[]).toList = _
 induction n with
 | zero => rfl
 | succ n ih => rw [List.replicate_succ, List.foldl_cons, foldl_app, Array.toList_append, ih, List.replicate_succ]; rfl
theorem Let.rep {a n : Nat} (h : 97 <= a /\ a <= 122) : Let (repS ⟨#[a]⟩ n) := fun c hc => by
 rw [repS_list] at hc
 rw [List.eq_of_mem_replicate hc]; exact h
theorem Let.one {a : Nat} (h : 97 <= a /\ a <= 122) : Let ⟨#[a]⟩ := fun c hc => by
 have : c = a := by simpa using hc
 rw [this]; exact h
theorem inL_ok : ((List.range 128).all fun n => inL n == (decide (97 <= n) && decide (n <= 122))) = true := by kernel_rfl
theorem inL_at {c : Nat} (h : 97 <= c /\ c <= 122) : inL c = true := by
 have := eq_of_beq (List.all_eq_true.mp inL_ok c (List.mem_range.mpr (by omega)))
 rw [this, decide_eq_true h.1, decide_eq_true h.2]; rfl
theorem Let.good {x : Str} (h : Let x) (h1 : 1 <= x.length) (h8 : x.length <= 8) : goodN x = true := by
 unfold goodN
 rw [decide_eq_true (by omega), decide_eq_true (by omega), Bool.true_and, Bool.true_and, List.all_eq_true]
 intro b hb
 refine eEA (Mm hb) fun c hc z1' => ?_; subst z1'
 exact inL_at (h c hc)
theorem ascii_of {x : Str} (h : ∀ c ∈ x.cps.toList, c < 128) : x.cps.all (· < 128) = true := by
 rw [<- Array.all_toList, List.all_eq_true]
 exact fun c hc => decide_eq_true (h c hc)
theorem Let.ascii {x : Str} (h : Let x) : x.cps.all (· < 128) = true := ascii_of fun c hc => by have := h c hc; omega
/-- a name of the law's -/
structure okN (x : Str) : Prop where
 le : Let x
 l1 : 1 <= x.length
 l8 : x.length <= 8
 ot : x ≠ "other"
structure badN (x : Str) : Prop where
 bad : goodN x = false
 len : x.length <= 100
 asc : x.cps.all (· < 128) = true
theorem okN.good {x : Str} (h : okN x) : goodN x = true := h.le.good h.l1 h.l8
theorem okN.ne_bad {x y : Str} (h : okN x) (k : badN y) : x ≠ y := fun q => by have := h.good; rw [q, k.bad] at this; exact nomatch this
theorem badN.empty : badN "" := ⟨by kernel_rfl, by decide, by kernel_rfl⟩
theorem shapeA : ((List.range 5).all fun a => (List.range 26).all fun i => (List.range 4).all fun b => decide (repS "o" a ++ ⟨#[97 + i]⟩ ++ repS "o" b ≠ ("other" : Str))) = true := by kernel_rfl
theorem okA {a b i : Int} (a0 : 0 <= a) (a1 : a < 5) (b0 : 0 <= b) (b1 : b < 4) (i0 : 0 <= i) (i1 : i < 26) : okN (repS "o" a.toNat ++ ⟨#[97 + i.toNat]⟩ ++ repS "o" b.toNat) := by
 have lo : ∀ n, (repS ("o" : Str) n).length = n := fun n => by rw [repS_length]; exact Nat.mul_one n
 have e : (repS "o" a.toNat ++ ⟨#[97 + i.toNat]⟩ ++ repS "o" b.toNat : Str).length = a.toNat + 1 + b.toNat := by rw [app_len, app_len, lo, lo]; rfl
 refine ⟨((Let.rep (a := 111) (by decide)).app (Let.one (by omega))).app (Let.rep (a := 111) (by decide)), by omega, by omega, ?_⟩
 have := List.all_eq_true.mp (List.all_eq_true.mp (List.all_eq_true.mp shapeA a.toNat (List.mem_range.mpr (by omega))) i.toNat (List.mem_range.mpr (by omega))) b.toNat (List.mem_range.mpr (by omega))
 exact of_decide_eq_true this
theorem let_at : ((List.range 26).all fun i => decide (LETTERS.cps[i]? = some (97 + i))) = true := by kernel_rfl
theorem letter {i : Int} (i0 : 0 <= i) (i1 : i < 26) : LETTERS.cps[i.toNat]? = some (97 + i.toNat) := of_decide_eq_true (List.all_eq_true.mp let_at i.toNat (List.mem_range.mpr (by omega)))
theorem WS.mono {c : Cx} {i : Ix} {st : Stmt} {ρ : Lo} {σ : Hp} {X : SX} {Q Q' : MF -> Lo -> Hp -> Prop} (h : WS c i st ρ Q X σ) (k : ∀ m ρ' σ', Q m ρ' σ' -> Q' m ρ' σ') : WS c i st ρ Q' X σ := S.mono h k
theorem WSs.split {c : Cx} {i : Ix} {st : Stmt} {rest : List Stmt} {ρ : Lo} {σ : Hp} {X : SX} {Q : MF -> Lo -> Hp -> Prop} (P : Lo -> Hp -> Prop) (h : WS c i st ρ (fun m ρ₁ σ₁ => m = .next /\ P ρ₁ σ₁) X σ) (k : ∀ ρ₁ σ₁, P ρ₁ σ₁ -> WSs c i rest ρ₁ Q X σ₁) : WSs c i (st :: rest) ρ Q X σ :=
 Wc (WS.mono h fun m ρ₁ σ₁ z9 => by obtain ⟨e, p⟩ := z9; subst e; exact k ρ₁ σ₁ p)
theorem WSs.splitO {c : Cx} {i : Ix} {st : Stmt} {rest : List Stmt} {ρ : Lo} {σ : Hp} {X : SX} {Q : MF -> Lo -> Hp -> Prop} (P : Lo -> Hp -> Prop) (h : ∀ G : MF -> Lo -> Hp -> Prop, (∀ ρ₁ σ₁, P ρ₁ σ₁ -> G .next ρ₁ σ₁) -> WS c i st ρ G X σ) (k : ∀ ρ₁ σ₁, P ρ₁ σ₁ -> WSs c i rest ρ₁ Q X σ₁) : WSs c i (st :: rest) ρ Q X σ :=
 WSs.split P (h _ fun _ _ p => ⟨rfl, p⟩) k
theorem WFor.byIdxO {c : Cx} {i : Ix} {x : Str} {body : List Stmt} {still : Hp -> Prop} {Q : MF -> Lo -> Hp -> Prop} {items : List MV} {ρ : Lo} {σ : Hp} (Inv : Nat -> Lo -> Hp -> Prop) (h0 : Inv 0 ρ σ)
 (hs : ∀ k v ρ σ, items[k]? = some v -> Inv k ρ σ -> still σ /\ ∀ G : MF -> Lo -> Hp -> Prop, (∀ ρ₂ σ₂, Inv (k + 1) ρ₂ σ₂ -> G .next ρ₂ σ₂) -> WSt c i x v ρ (fun ρ₁ σ₁ => WSs c i body ρ₁ G noSX σ₁) noSX σ)
 (he : ∀ ρ σ, Inv items.length ρ σ -> still σ /\ Q .next ρ σ) : WFor c i x body still Q items ρ σ :=
 WFor.byIdx Inv h0 (fun k v ρ σ hv hI => ⟨(hs k v ρ σ hv hI).1, (hs k v ρ σ hv hI).2 _ fun _ _ h => h⟩) he
theorem WFor.upToO {c : Cx} {i : Ix} {x : Str} {body : List Stmt} {Q : MF -> Lo -> Hp -> Prop} {n : Int} {ρ : Lo} {σ : Hp} (Inv : Nat -> Lo -> Hp -> Prop) (h0 : Inv 0 ρ σ)
 (hs : ∀ (k : Nat) ρ σ, (k : Int) < n -> Inv k ρ σ -> ∀ G : MF -> Lo -> Hp -> Prop, (∀ ρ₂ σ₂, Inv (k + 1) ρ₂ σ₂ -> G .next ρ₂ σ₂) -> WSt c i x (.int (k : Int)) ρ (fun ρ₁ σ₁ => WSs c i body ρ₁ G noSX σ₁) noSX σ)
 (he : ∀ ρ σ, Inv n.toNat ρ σ -> Q .next ρ σ) : WFor c i x body (fun _ => True) Q (Mine.upTo 0 n) ρ σ :=
 WFor.upTo Inv h0 (fun k ρ σ hk hI => hs k ρ σ hk hI _ fun _ _ h => h) he
theorem All2.imp {α β : Type} {R R' : α -> β -> Prop} {l : List α} {m : List β} (h : All2 R l m) (k : ∀ a b, R a b -> R' a b) : All2 R' l m := by
 induction h with
 | nil => exact .nil
 | cons r _ ih => exact .cons (k _ _ r) ih
theorem all2_at {α β : Type} {R : α -> β -> Prop} {l : List α} {m : List β} (h : All2 R l m) : ∀ {k : Nat} {b : β}, m[k]? = some b -> ∃ a, l[k]? = some a /\ R a b := by
 induction h with
 | nil => intro k b h; simp at h
 | @cons x y l m r _ ih =>
  intro k b h
  cases k with
  | zero => simp at h; subst h; exact (iEA x rfl r)
  | succ k => simp only [List.getElem?_cons_succ] at h ⊢; exact ih h
/-- a row without its mark of readiness: what the house's lemmas (law13b..e) speak of -/
structure Row4 where
 name : Str
 up : Str
 share : Int
 team : Bool
 here : Bool
def nm13 (s : Int) (k : Nat) : Str := repS "o" ((s.fdiv 26).fmod 5).toNat ++ ⟨#[97 + (((k : Int) + s).fmod 26).toNat]⟩ ++ repS "o" ((s.fdiv 130).fmod 4).toNat
theorem nm13_ok (s : Int) (k : Nat) : okN (nm13 s k) := okA (fmod_ge _ (by decide)) (fmod_lt _ (by decide)) (fmod_ge _ (by decide)) (fmod_lt _ (by decide)) (fmod_ge _ (by decide)) (fmod_lt _ (by decide))
theorem nm13_inj {s : Int} {j k : Nat} (hj : j < 26) (hk : k < 26) (h : nm13 s j = nm13 s k) : j = k := by
 have hl := congrArg (fun x : Str => x.cps.toList) h
 unfold nm13 at hl
 rw [app_list, app_list, app_list, app_list] at hl
 have := List.append_cancel_left (List.append_cancel_right hl)
 have e := (List.cons.inj (show [97 + (((j : Int) + s).fmod 26).toNat] = [97 + (((k : Int) + s).fmod 26).toNat] from this)).1
 rw [Int.fmod_eq_emod_of_nonneg _ (by decide), Int.fmod_eq_emod_of_nonneg _ (by decide)] at e
 omega
structure ROk4 (s : Int) (R : List Row4) : Prop where
 nm : ∀ (k : Nat) (r : Row4), R[k]? = some r -> r.name = nm13 s k
structure Row5 where
 name : Str
 up : Str
 share : Int
 team : Bool
 rdy : Bool
 here : Bool
def Row5.to4 (r : Row5) : Row4 := ⟨r.name, r.up, r.share, r.team, r.here⟩
def rowW (r : Row5) : List MV := [.str r.name, .str r.up, .int r.share, .bool r.team, .bool r.rdy, .bool r.here]
abbrev RowAt (σ : Hp) (t : Nat) (r : Row5) : Prop := σ t = some (7, .list (rowW r))
structure Rows5 (σ : Hp) (B : Nat) (R : List Row5) (ts : List Nat) : Prop where
 lst : σ B = some (6, .list (ts.map .ref))
 row : All2 (RowAt σ) ts R
 nd : ts.Nodup
theorem Rows5.len {σ : Hp} {B : Nat} {R : List Row5} {ts : List Nat} (h : Rows5 σ B R ts) : ts.length = R.length := h.row.length
theorem Rows5.keep {σ σ' : Hp} {B : Nat} {R : List Row5} {ts : List Nat} (h : Rows5 σ B R ts) (k6 : ∀ {a o}, σ a = some (6, o) -> σ' a = some (6, o)) (k7 : ∀ {a o}, σ a = some (7, o) -> σ' a = some (7, o)) : Rows5 σ' B R ts := ⟨k6 h.lst, h.row.imp fun _ _ e => k7 e, h.nd⟩
theorem Rows5.ext {σ σ' : Hp} {B : Nat} {R : List Row5} {ts : List Nat} (h : Rows5 σ B R ts) (e : Extd σ σ') : Rows5 σ' B R ts := h.keep (fun q => e _ _ q) (fun q => e _ _ q)
theorem Rows5.at {σ : Hp} {B k : Nat} {R : List Row5} {ts : List Nat} {r : Row5} (h : Rows5 σ B R ts) (hk : R[k]? = some r) : ∃ t, ts[k]? = some t /\ σ t = some (7, .list [.str r.name, .str r.up, .int r.share, .bool r.team, .bool r.rdy, .bool r.here]) := all2_at h.row hk
theorem all2_updW {σ : Hp} {t : Nat} {o : MO} : ∀ {l : List Row5} {ts : List Nat}, t ∉ ts -> All2 (RowAt σ) ts l -> All2 (RowAt (σ.put t 7 o)) ts l
 | _, _, _, .nil => .nil
 | _, _, n, .cons r k => .cons (Hp.ne (fun q => n (by rw [q]; exact List.mem_cons_self ..)) r) (all2_updW (fun q => n (List.mem_cons_of_mem _ q)) k)
theorem all2_setW {σ : Hp} {t : Nat} {y : Row5} : ∀ {l : List Row5} {ts : List Nat} {k : Nat}, ts.Nodup -> ts[k]? = some t -> All2 (RowAt σ) ts l -> All2 (RowAt (σ.put t 7 (.list (rowW y)))) ts (l.set k y)
 | _, _, _, _, h, .nil => by simp at h
 | _, _, 0, nd, h, .cons r k => by
  simp at h; subst h
  exact .cons Hp.self (all2_updW (List.nodup_cons.mp nd).1 k)
 | _, _, j + 1, nd, h, .cons r k => by
  simp only [List.getElem?_cons_succ] at h
  rw [List.set_cons_succ]
  exact .cons (Hp.ne (fun q => (List.nodup_cons.mp nd).1 (by rw [q]; exact Mg h)) r) (all2_setW (List.nodup_cons.mp nd).2 h k)
theorem Rows5.upd {σ : Hp} {B k t : Nat} {R : List Row5} {ts : List Nat} {y : Row5} (h : Rows5 σ B R ts) (ht : ts[k]? = some t) {o : MO} (e : σ t = some (7, o)) : Rows5 (σ.put t 7 (.list (rowW y))) B (R.set k y) ts := ⟨Hp.tag e (by decide) h.lst, all2_setW h.nd ht h.row, h.nd⟩
/-- a text that a team bears, of the first rows -/
def UpOk (R : List Row5) (k : Nat) (x : Str) : Prop := x = "" ∨ ∃ (i : Nat) (r : Row5), i < k /\ R[i]? = some r /\ r.team = true /\ r.name = x
theorem UpOk.app {R : List Row5} {k m : Nat} {x : Str} {r : Row5} (h : UpOk R k x) (hm : k <= m) : UpOk (R ++ [r]) m x := h.imp id fun ⟨i, r', h1, h2, h3⟩ => (iEEAA i r' (Nat.lt_of_lt_of_le h1 hm) (by rw [List.getElem?_append_left (Gs h2).1]; exact h2) h3)
/-- what the rows are -/
structure ROk5 (s : Int) (R : List Row5) : Prop where
 nm : ∀ (k : Nat) (r : Row5), R[k]? = some r -> r.name = nm13 s k
theorem ROk5.to4 {s : Int} {R : List Row5} (h : ROk5 s R) : ROk4 s (R.map Row5.to4) := ⟨fun k r hk => by
 rw [List.getElem?_map] at hk
 refine eEA (Option.map_eq_some_iff.mp hk) fun q h1 h2 => ?_
 rw [<- h2]; exact h.nm k q h1⟩
/-- what the rows are at first -/
structure RNew (R : List Row5) : Prop where
 nw : ∀ (k : Nat) (r : Row5), R[k]? = some r -> UpOk R k r.up /\ 1 <= r.share /\ r.share <= 12 /\ r.rdy = false /\ r.here = true
theorem name_by_c {s : Int} {k : Nat} (hq : Q (.str (nm13 s k)) σ) : WFn (cx w mean mg mb) ⟨n + 1, true, sc⟩ a_law_name_by [.int (k : Int), .int s] ρ Q X σ := by
 have a0 := fmod_ge (s.fdiv 26) (show (1 : Int) <= 5 by decide)
 have a1 := fmod_lt (s.fdiv 26) (show (1 : Int) <= 5 by decide)
 have b0 := fmod_ge (s.fdiv 130) (show (1 : Int) <= 4 by decide)
 have b1 := fmod_lt (s.fdiv 130) (show (1 : Int) <= 4 by decide)
 have l0 := fmod_ge ((k : Int) + s) (show (1 : Int) <= 26 by decide)
 have l1 := fmod_lt ((k : Int) + s) (show (1 : Int) <= 26 by decide)
 have l2 : ((k : Int) + s).fmod 26 < 2 ^ 63 := by exact Int.lt_trans ‹_› (by decide)
 have ok8 := (nm13_ok s k).l8
 have ok8' : (repS "o" ((s.fdiv 26).fmod 5).toNat ++ (⟨#[97 + (((k : Int) + s).fmod 26).toNat]⟩ : Str)).length + (repS "o" ((s.fdiv 130).fmod 4).toNat).length <= 8 := by rw [<- app_len]; exact ok8
 refine WFn.fn2 (p1 := "_law_k") (p2 := "_law_shift") (FnAt.of2 (rfl : (Mine.hd.heap_39 w.params).lookup a_law_name_by = _) (by kernel_rfl) (fun _ _ => rfl) (by kernel_rfl)) ?_
 refine WSs.assignP (fun _ _ _ => rfl) PE.str (by kernel_rfl) ?_
 refine Wc (WS.ret (WE.binop (WE.binop (WE.binop (WE.str (PE.use (PE.binop (PE.binop PL PE.int (PB.div (by decide) (by decide))) PE.int (PB.mod (by decide))) ?_))))))
 refine WB.mulS a0 (by omega) (show 1 <= 1000 by decide) ?_
 refine WE.sub (WE.lo ?_)
 refine PE.use (PE.binop (PE.binop PL PL PB.add) PE.int (PB.mod (by decide))) ?_
 refine WSub.str (fun _ _ => rfl) l0 l2 (letter l0 l1) ?_
 refine WB.addS (size_ok (by rw [<- app_len]; omega)) ?_
 refine WE.binop (WE.str (PE.use (PE.binop (PE.binop PL PE.int (PB.div (by decide) (by decide))) PE.int (PB.mod (by decide))) ?_))
 refine WB.mulS b0 (by omega) (show 1 <= 1000 by decide) ?_
 refine WB.addS (size_ok (Nat.le_trans ‹_› (by decide))) ?_
 exact hq
theorem rows_by_c {f sec s : Int} {deep : Bool} (hq : ∀ B R ts σ', Rows5 σ' B R ts -> ROk5 s R -> RNew R -> 1 <= R.length -> R.length <= 25 -> Extd σ σ' -> Q (.ref B) σ') : WFn (cx w mean mg mb) ⟨n + 2, true, sc⟩ a_law_rows_by [.int f, .int sec, .int s, .bool deep] ρ Q X σ := by
 refine WFn.fn4 (p1 := "_law_first") (p2 := "_law_second") (p3 := "_law_shift") (p4 := "_law_deep") (FnAt.of4 (rfl : (Mine.hd.heap_39 w.params).lookup a_law_rows_by = _) (by kernel_rfl) (fun _ _ _ _ => rfl) (by kernel_rfl)) ?_
 refine Wc (WS.assign (fun _ _ _ => rfl) (WE.binop (PE.use (PE.binop PE.int (PE.binop PL PE.int (PB.mod (by decide))) PB.add) ?_)))
 refine WE.binop (WE.int (WE.callP (by kernel_rfl) g_int (Callee.con rfl) (Po (PE.cmp1 rfl (PE.binop (PE.binop PL PE.int (PB.div (by decide) (by decide))) PE.int (PB.mod (by decide))) PE.int PC.eqI) PN) rfl ?_))
 refine WCall.intB ?_
 have hm : ∀ b : Bool, 1 <= 1 + f.fmod 9 + 16 * (if b = true then 1 else 0) /\ 1 + f.fmod 9 + 16 * (if b = true then 1 else 0) <= 25 := fun b => by
  have h0 := fmod_ge f (show (1 : Int) <= 9 by decide)
  have h1 := fmod_lt f (show (1 : Int) <= 9 by decide)
  cases b <;> simp <;> omega
 have hmm := hm ((f.fdiv 9).fmod 6 == 1)
 refine WB.mul (IntMulOk.of_left (by decide)) ?_
 refine WB.add ?_
 refine Wl (by kernel_rfl) ?_
 refine Wc (WS.assign (fun _ _ _ => rfl) ?_)
 generalize 1 + f.fmod 9 + 16 * (if ((f.fdiv 9).fmod 6 == 1) = true then 1 else 0) = m at hmm ⊢
 obtain ⟨m2, m25⟩ := hmm
 clear hm
 refine WE.list 6 ?_
 refine WEs.nil (⟨by simp, fun B hB => ?_⟩)
 refine Wl (by kernel_rfl) ?_
 refine Wc (WS.assign (fun _ _ _ => rfl) (WE.list 3 ?_))
 refine PEs.use (Po PE.str PN) ?_
 refine ⟨by simp, fun S hS => ?_⟩
 refine Wl (by kernel_rfl) ?_
 refine Wc (WS.for rfl (fun _ _ => rfl) ?_)
 refine WE.callP (by kernel_rfl) g_range (Callee.con rfl) (Po PL PN) rfl ?_
 refine WCall.range1 9 fun b hb => ?_
 refine (iEEA _ _ (itR Hp.self (by omega) (Int.le_trans ‹_› (by decide))) ?_)
 have nB : σ B = Option.none := hB.none
 have nS : σ S = Option.none := by
  cases e : σ S with
  | none => rfl
  | some p => have := hS.none; rw [Hp.new hB.none e] at this; exact nomatch this
 refine WFor.upToO (fun j ρ' σ' => (∃ R ts, Rows5 σ' B R ts /\ ROk5 s R /\ RNew R /\ R.length = j /\ ∃ sp : List Str, σ' S = some (3, .list (sp.map .str)) /\ 1 <= sp.length /\ sp.length <= j + 1 /\ ∀ x ∈ sp, UpOk R j x) /\ Extd σ σ' /\ ρ' "_law_first" = some (.int f) /\ ρ' "_law_second" = some (.int sec) /\ ρ' "_law_shift" = some (.int s) /\ ρ' "_law_deep" = some (.bool deep) /\ ρ' "_law_many" = some (.int m) /\ ρ' "_law_rows" = some (.ref B) /\ ρ' "_law_spots" = some (.ref S)) ?_ ?_ ?_
 · refine (iA8 (iE2 ([]) ([]) (iA4 ⟨Hp.new hb.none (Hp.new hS.none Hp.self), .nil, List.nodup_nil⟩ ⟨fun k r h => by simp at h⟩ ⟨fun k r h => by simp at h⟩ rfl (iEAAA ([""]) (Hp.new hb.none Hp.self) (Nat.le_refl _) (Nat.le_refl _) (fun x hx => ?_)))) (fun a p q => Hp.new hb.none (Hp.new hS.none (Hp.new hB.none q))) (by walk_at "lk") (by walk_at "lk") (by walk_at "lk") (by walk_at "lk") (by walk_at "lk") (by walk_at "lk") (by walk_at "lk"))
   exact .inl (List.mem_singleton.mp hx)
 · rintro j ρ' σ' hj ⟨⟨R, ts, hR, ok, nw, rl, sp, hsp, sp1, spl, spa⟩, e, r0, r1, rs, rd, r2, r4, r5⟩
   intro KL hKL
   have tl := hR.len
   have c0 := fmod_ge (j : Int) (show (1 : Int) <= 4 by decide)
   have c1 := fmod_lt (j : Int) (show (1 : Int) <= 4 by decide)
   have d0 : (1 + (j : Int).fmod 4) ≠ 0 := by omega
   have d1 : (1 + (j : Int).fmod 4).natAbs < 1073741824 := by omega
   have g0 := fmod_ge (f.fdiv 54) (show (1 : Int) <= 5 by decide)
   have g1 := fmod_lt (f.fdiv 54) (show (1 : Int) <= 5 by decide)
   refine Wl (by kernel_rfl) ?_
   refine Wc (WS.assign (fun _ _ _ => rfl) (WE.binop (WE.binop (WE.lo ?_))))
   refine WE.binop (PE.use (PE.binop PE.int PL (PB.mul (IntMulOk.of_left (by decide)))) ?_)
   refine PE.use (PE.binop PE.int (PE.binop (PE.binop PL PE.int (PB.div (by decide) (by decide))) PE.int (PB.mod (by decide))) PB.add) ?_
   refine WB.mul (IntMulOk.of_right (intBits_le_iff.mpr (by omega))) ?_
   refine WB.add ?_
   refine PE.use (PE.binop PE.int (PE.binop PL PE.int (PB.mod (by decide))) PB.add) ?_
   refine WB.div (by with_reducible assumption) (by with_reducible assumption) ?_
   refine Wl (by kernel_rfl) ?_
   refine Wc (WS.assign (fun _ _ _ => rfl) (WE.cp g_law_name_by fn_law_name_by (Po PL (Po PL PN)) ?_))
   generalize (sec + 7 * (j : Int) * (1 + (f.fdiv 54).fmod 5)).fdiv (1 + (j : Int).fmod 4) = num
   refine Wf (name_by_c ?_)
   refine Wl (by kernel_rfl) ?_
   refine WSs.splitO (fun ρ1 σ1 => σ1 = σ' /\ (∃ tb : Bool, ρ1 "_law_team" = some (.bool tb)) /\ ρ1 "_law_k" = some (.int (j : Int)) /\ ρ1 "_law_number" = some (.int num) /\ ρ1 "_law_first" = some (.int f) /\ ρ1 "_law_second" = some (.int sec) /\ ρ1 "_law_shift" = some (.int s) /\ ρ1 "_law_name" = some (.str (nm13 s j)) /\ ρ1 "_law_deep" = some (.bool deep) /\ ρ1 "_law_many" = some (.int m) /\ ρ1 "_law_rows" = some (.ref B) /\ ρ1 "_law_spots" = some (.ref S)) ?_ ?_
   · intro KS hKS
     by_cases c5 : num.fmod 5 < 2
     · skip
       refine WS.assign (fun _ _ _ => rfl) (WE.and (WE.or (PE.use (PE.cmp1 rfl (PE.binop PL PE.int (PB.mod (by decide))) PE.int PC.lt) ?_)))
       refine Wb (if_dt ‹_› ?_)
       refine Wb (if_dt ‹_› ?_)
       refine WE.and1 ?_
       refine PE.use (PE.cmp1 rfl (PE.binop PL PE.int PB.add) PL PC.lt) ?_
       refine Wl (by kernel_rfl) ?_
       exact hKS _ _ (iA11 rfl ⟨_, by walk_at "lk"⟩ (by walk_at "lk") (by walk_at "lk") (by walk_at "lk") (by walk_at "lk") (by walk_at "lk") (by walk_at "lk") (by walk_at "lk") (by walk_at "lk") (by walk_at "lk") (by walk_at "lk"))
     · cases deep with
       | true =>
        refine WS.assign (fun _ _ _ => rfl) (WE.and (WE.or (PE.use (PE.cmp1 rfl (PE.binop PL PE.int (PB.mod (by decide))) PE.int PC.lt) ?_)))
        refine Wb (if_df ‹_› ?_)
        refine WE.and1 ?_
        refine WE.lo ?_
        refine Wb (if_tt (WE.and1 ?_))
        refine PE.use (PE.cmp1 rfl (PE.binop PL PE.int PB.add) PL PC.lt) ?_
        refine Wl (by kernel_rfl) ?_
        exact hKS _ _ (iA11 rfl ⟨_, by walk_at "lk"⟩ (by walk_at "lk") (by walk_at "lk") (by walk_at "lk") (by walk_at "lk") (by walk_at "lk") (by walk_at "lk") (by walk_at "lk") (by walk_at "lk") (by walk_at "lk") (by walk_at "lk"))
       | false =>
        refine WS.assign (fun _ _ _ => rfl) (WE.and (WE.or (PE.use (PE.cmp1 rfl (PE.binop PL PE.int (PB.mod (by decide))) PE.int PC.lt) ?_)))
        refine Wb (if_df ‹_› ?_)
        refine WE.and1 ?_
        refine WE.lo ?_
        refine Wb (if_ff (Wl (by kernel_rfl) ?_))
        exact hKS _ _ (iA11 rfl ⟨_, by walk_at "lk"⟩ (by walk_at "lk") (by walk_at "lk") (by walk_at "lk") (by walk_at "lk") (by walk_at "lk") (by walk_at "lk") (by walk_at "lk") (by walk_at "lk") (by walk_at "lk") (by walk_at "lk"))
   clear r0 r1 r2 r4 r5 rd rs
   rintro ρ1 σ1 ⟨rfl, ⟨tb, q0⟩, qk, qn, r0, r1, rs, qm, rd, r2, r4, r5⟩
   have spn : ((sp.map MV.str).length : Int) = (sp.length : Int) := by rw [List.length_map]
   refine WSs.splitO (fun ρ2 σ2 => σ2 = σ1 /\ (∃ x : Str, x ∈ sp /\ ρ2 "_law_above_here" = some (.str x)) /\ ρ2 "_law_team" = some (.bool tb) /\ ρ2 "_law_k" = some (.int (j : Int)) /\ ρ2 "_law_number" = some (.int num) /\ ρ2 "_law_first" = some (.int f) /\ ρ2 "_law_second" = some (.int sec) /\ ρ2 "_law_shift" = some (.int s) /\ ρ2 "_law_name" = some (.str (nm13 s j)) /\ ρ2 "_law_deep" = some (.bool deep) /\ ρ2 "_law_many" = some (.int m) /\ ρ2 "_law_rows" = some (.ref B) /\ ρ2 "_law_spots" = some (.ref S)) ?_ ?_
   · intro KS hKS
     cases deep with
     | true =>
      refine WS.assign (fun _ _ _ => rfl) (WE.ifexp ?_)
      refine PT.use (PT.plain (fun _ _ => rfl) PL) ?_
      refine if_tt (WE.sub (WE.lo ?_))
      refine WE.unary (WE.int (WU.neg ?_))
      have hx0 : sp[sp.length - 1]? = some (sp[sp.length - 1]'(by omega)) := List.getElem?_eq_getElem (by omega)
      generalize (sp[sp.length - 1]'(by omega)) = x at hx0
      refine WSub.listNeg (fun _ _ => rfl) (ListAt.own hsp) (by decide) (by rw [spn]; omega) (by decide) (v := .str x) (by
       have : ((-1 : Int) + ((sp.map MV.str).length : Int)).toNat = sp.length - 1 := by rw [spn]; omega
       rw [this, List.getElem?_map, hx0]; rfl) ?_
      refine Wl (by kernel_rfl) ?_
      exact hKS _ _ (iA12 rfl (iEA x (Mg hx0) (by walk_at "lk")) (by walk_at "lk") (by walk_at "lk") (by walk_at "lk") (by walk_at "lk") (by walk_at "lk") (by walk_at "lk") (by walk_at "lk") (by walk_at "lk") (by walk_at "lk") (by walk_at "lk") (by walk_at "lk"))
     | false =>
      have sl1 : (1 : Int) <= (sp.length : Int) := by omega
      have sl0 : (sp.length : Int) ≠ 0 := by omega
      have i0 := fmod_ge (num.fdiv 5) sl1
      have i1 := fmod_lt (num.fdiv 5) sl1
      have i2 : (num.fdiv 5).fmod (sp.length : Int) < 2 ^ 63 := by omega
      obtain ⟨ix, hix⟩ := Int.eq_ofNat_of_zero_le i0
      have ixl : ix < sp.length := by omega
      have hx0 : sp[ix]? = some sp[ix] := List.getElem?_eq_getElem ixl
      generalize sp[ix] = x at hx0
      have hx1 : (sp.map MV.str)[((num.fdiv 5).fmod (sp.length : Int)).toNat]? = some (.str x) := by rw [hix, Int.toNat_natCast, List.getElem?_map, hx0]; rfl
      refine WS.assign (fun _ _ _ => rfl) (WE.ifexp ?_)
      refine PT.use (PT.plain (fun _ _ => rfl) PL) ?_
      refine if_ff (WE.sub (WE.lo ?_))
      refine WE.binop (PE.use (PE.binop PL PE.int (PB.div (by decide) (by decide))) ?_)
      refine WE.callP (by kernel_rfl) g_len (Callee.con rfl) (Po PL PN) rfl ?_
      refine WCall.lenList (ListAt.own hsp) (by rw [List.length_map]; omega) ?_
      rw [spn]
      refine WB.mod (by with_reducible assumption) ?_
      refine WSub.list (fun _ _ => rfl) (ListAt.own ‹_›) (by with_reducible assumption) (by with_reducible assumption) ‹_› ?_
      refine Wl (by kernel_rfl) ?_
      exact hKS _ _ (iA12 rfl (iEA x (Mg hx0) (by walk_at "lk")) (by walk_at "lk") (by walk_at "lk") (by walk_at "lk") (by walk_at "lk") (by walk_at "lk") (by walk_at "lk") (by walk_at "lk") (by walk_at "lk") (by walk_at "lk") (by walk_at "lk") (by walk_at "lk"))
   clear q0 qk qn qm r0 r1 r2 r4 r5 rd rs
   rintro ρ2 σ2 ⟨rfl, ⟨x, hxm, qa⟩, q0, qk, qn, r0, r1, rs, qm, rd, r2, r4, r5⟩
   have xok := spa x hxm
   have hBl := hR.lst
   refine Wc (WS.expr (fun _ _ _ => rfl) (WE.method (fun _ _ => rfl) rfl rfl rfl (WE.lo ?_)))
   refine WM.listAppend hBl ?_
   refine And.intro (Callee.con rfl) (WEs.cons rfl (WE.list 7 ?_))
   refine PEs.use (Po PL (Po PL (Po (PE.binop PE.int (PE.binop (PE.binop PL PE.int (PB.div (by decide) (by decide))) PE.int (PB.mod (by decide))) PB.add) (Po PL (Po PE.bool (Po PE.bool PN)))))) ?_
   refine ⟨by simp, fun u hu => ?_⟩
   refine WEs.nil ?_
   refine WCall.append (Hp.new hu.none hBl) (by rw [List.length_map]; omega) ?_
   have sh0 := sh_lo (num.fdiv 7)
   have sh1 := sh_hi (num.fdiv 7)
   generalize 1 + (num.fdiv 7).fmod 12 = sh at sh0 sh1 hu ⊢
   have oth : ∀ {a t' o}, σ2 a = some (t', o) -> t' ≠ 6 -> ((σ2.put u 7 (.list [.str (nm13 s j), .str x, .int sh, .bool tb, .bool false, .bool true])).put B 6 (.list (ts.map .ref ++ [.ref u]))) a = some (t', o) := fun e n6 => Hp.tag (Hp.new hu.none hBl) n6 (Hp.new hu.none e)
   have hu3 : ((σ2.put u 7 (.list [.str (nm13 s j), .str x, .int sh, .bool tb, .bool false, .bool true])).put B 6 (.list (ts.map .ref ++ [.ref u]))) u = some (7, .list [.str (nm13 s j), .str x, .int sh, .bool tb, .bool false, .bool true]) := Hp.tag (Hp.new hu.none hBl) (by decide) Hp.self
   have hR2 : Rows5 ((σ2.put u 7 (.list [.str (nm13 s j), .str x, .int sh, .bool tb, .bool false, .bool true])).put B 6 (.list (ts.map .ref ++ [.ref u]))) B (R ++ [⟨nm13 s j, x, sh, tb, false, true⟩]) (ts ++ [u]) := by
    refine ⟨by rw [List.map_append]; exact Hp.self, (hR.row.imp fun _ _ q => oth q (by decide)).append (.cons hu3 .nil), ?_⟩
    refine List.nodup_append.mpr (iA2 hR.nd (by simp) (fun a ha b hb q => ?_))
    rw [List.mem_singleton.mp hb] at q
    obtain ⟨i, hi⟩ := Mi ha
    refine eEA (hR.row.get hi) fun y _ ey => ?_
    have ey' : σ2 a = _ := ey
    rw [q, hu.none] at ey'
    exact nomatch ey'
   have e2 : Extd σ ((σ2.put u 7 (.list [.str (nm13 s j), .str x, .int sh, .bool tb, .bool false, .bool true])).put B 6 (.list (ts.map .ref ++ [.ref u]))) := fun a p q => Hp.ne (fun e' => by rw [e', nB] at q; exact nomatch q) (Hp.new hu.none (e _ _ q))
   have hS2 := oth hsp (by decide)
   generalize (σ2.put u 7 (.list [.str (nm13 s j), .str x, .int sh, .bool tb, .bool false, .bool true])).put B 6 (.list (ts.map .ref ++ [.ref u])) = σ3 at hR2 e2 hS2 hu3 ⊢
   have ok2 : ROk5 s (R ++ [⟨nm13 s j, x, sh, tb, false, true⟩]) /\ RNew (R ++ [⟨nm13 s j, x, sh, tb, false, true⟩]) := by
    have key : ∀ (k : Nat) (r : Row5), (R ++ [(⟨nm13 s j, x, sh, tb, false, true⟩ : Row5)])[k]? = some r -> (k < R.length /\ R[k]? = some r) ∨ (k = j /\ r = ⟨nm13 s j, x, sh, tb, false, true⟩) := fun k r hr => by
     by_cases hk : k < R.length
     · rw [List.getElem?_append_left hk] at hr; exact .inl ⟨hk, hr⟩
     · have hk2 : k = R.length := by
        have := (Gs hr).1
        rw [List.length_append] at this
        simp at this
        omega
       subst hk2
       rw [List.getElem?_append_right (Nat.le_refl _), Nat.sub_self] at hr
       exact .inr ⟨rl, (Oi hr).symm⟩
    refine ⟨⟨fun k r hr => ?_⟩, ⟨fun k r hr => ?_⟩⟩
    · rcases key k r hr with ⟨_, q⟩ | ⟨rfl, rfl⟩
      · exact ok.nm k r q
      · rfl
    · rcases key k r hr with ⟨_, q⟩ | ⟨rfl, rfl⟩
      · obtain ⟨o1, o2⟩ := nw.nw k r q
        exact ⟨o1.app (Nat.le_refl _), o2⟩
      · exact (iA4 (xok.app (Nat.le_refl _)) sh0 sh1 rfl rfl)
   have sp2 : ∀ y ∈ sp, UpOk (R ++ [(⟨nm13 s j, x, sh, tb, false, true⟩ : Row5)]) (j + 1) y := fun y hy => (spa y hy).app (Nat.le_succ _)
   have last : (R ++ [(⟨nm13 s j, x, sh, tb, false, true⟩ : Row5)])[j]? = some ⟨nm13 s j, x, sh, tb, false, true⟩ := by rw [List.getElem?_append_right (Nat.le_of_eq rl), rl, Nat.sub_self]; rfl
   have rl2 : (R ++ [(⟨nm13 s j, x, sh, tb, false, true⟩ : Row5)]).length = j + 1 := by rw [List.length_append, rl]; rfl
   cases htb : tb with
   | false =>
    rw [htb] at q0
    refine WSs.skipP (PT.plain (fun _ _ => rfl) PL) rfl ?_
    refine Wn ?_
    rw [htb] at hR2 ok2 sp2 rl2
    exact hKL _ _ (iA8 (iE2 _ _ (iA4 hR2 ok2.1 ok2.2 rl2 (iEAAA sp hS2 sp1 (by omega) sp2))) e2 (by walk_at "lk") (by walk_at "lk") (by walk_at "lk") (by walk_at "lk") (by walk_at "lk") (by walk_at "lk") (by walk_at "lk"))
   | true =>
    rw [htb] at q0 last
    refine WSs.thenP (PT.plain (fun _ _ => rfl) PL) rfl ?_
    refine Wc (WS.expr (fun _ _ _ => rfl) (WE.method (fun _ _ => rfl) rfl rfl rfl (WE.lo ?_)))
    refine WM.listAppend hS2 ?_
    refine And.intro (Callee.con rfl) (PEs.use (Po PL PN) ?_)
    refine WCall.append hS2 (by rw [List.length_map]; omega) ?_
    refine Wn (Wn ?_)
    rw [htb] at hR2 ok2 sp2 rl2
    refine hKL _ _ (iA8 (iE2 _ _ (iA4 (hR2.keep (fun q => Hp.tag hS2 (by decide) q) (fun q => Hp.tag hS2 (by decide) q)) ok2.1 ok2.2 rl2 (iEAAA (sp ++ [nm13 s j]) (by rw [List.map_append]; exact Hp.self) (by rw [List.length_append]; simp) (by rw [List.length_append]; simp; omega) (fun y hy => ?_)))) (fun a p q => Hp.ne (fun e' => by rw [e', nS] at q; exact nomatch q) (e2 _ _ q)) (by walk_at "lk") (by walk_at "lk") (by walk_at "lk") (by walk_at "lk") (by walk_at "lk") (by walk_at "lk") (by walk_at "lk"))
    rcases List.mem_append.mp hy with q | q
    · exact sp2 y q
    · rw [List.mem_singleton.mp q]
      exact .inr (iEEAAA j _ (Nat.lt_succ_self _) last rfl rfl)
 · rintro ρ' σ' ⟨⟨R, ts, hR, ok, nw, rl, sp, hsp, sp1, spl, spa⟩, e, r0, r1, rs, rd, r2, r4, r5⟩
   refine WSs.retP PL ?_
   exact hq B R ts σ' hR ok nw (by omega) (by omega) e
theorem anyR_app {l : List Shr} {y : Shr} (h : y.ready = false) : anyR (l ++ [y]) = anyR l := by
 unfold anyR
 rw [List.any_append]
 simp [h]
/-- somebody, resting, stands in a team -/
theorem tree_enter {tm : List Team} {ab : List (Str × Str)} {k : Nat} {t : Team} {y : Shr} (tr : Tree tm ab) (hk : tm[k]? = some t) (hy : y.name ≠ "") : Tree (tm.set k { t with l := t.l ++ [y] }) (ab ++ [(y.name, t.name)]) := by
 have at_ : ∀ (i : Nat) (u : Team), tm[i]? = some u -> ∃ v : Team, (tm.set k { t with l := t.l ++ [y] })[i]? = some v /\ v.name = u.name /\ ∀ (m : Nat) (z : Shr), u.l[m]? = some z -> v.l[m]? = some z := fun i u hu => by
  by_cases q : k = i
  · subst q
    have : u = t := Oi (hu.symm.trans hk)
    subst this
    exact (iEAA _ (List.getElem?_set_self (Gs hk).1) rfl (fun m z hz => by show (u.l ++ [y])[m]? = _; rw [List.getElem?_append_left (Gs hz).1]; exact hz))
  · exact (iEAA u (by rw [List.getElem?_set_ne q]; exact hu) rfl (fun m z hz => hz))
 have back : ∀ (i : Nat) (v : Team), (tm.set k { t with l := t.l ++ [y] })[i]? = some v -> ∃ u : Team, tm[i]? = some u /\ u.name = v.name /\ ∀ (m : Nat) (z : Shr), v.l[m]? = some z -> u.l[m]? = some z ∨ (z = y /\ u.name = t.name) := fun i v hv => by
  by_cases q : k = i
  · subst q
    rw [List.getElem?_set_self (Gs hk).1] at hv
    have := Oi hv
    subst this
    refine (iEAA t hk rfl (fun m z hz => ?_))
    have hz' : (t.l ++ [y])[m]? = some z := hz
    by_cases hm : m < t.l.length
    · rw [List.getElem?_append_left hm] at hz'; exact .inl hz'
    · rw [List.getElem?_append_right (Nat.not_lt.mp hm)] at hz'
      have := Mg hz'
      exact .inr ⟨List.mem_singleton.mp this, rfl⟩
  · rw [List.getElem?_set_ne q] at hv
    exact (iEAA v hv rfl (fun m z hz => .inl hz))
 refine ⟨?_, ?_, ?_, ?_⟩
 · refine eEA tr.root fun u h1 h2 => ?_
   refine eEAA (at_ 0 u h1) fun v h3 h4 _ => ?_
   exact (iEA v h3 (h4.trans h2))
 · intro i v hv hpos
   refine eEAA (back i v hv) fun u h1 h2 _ => ?_
   refine eEEEEAAAA (tr.up i u h1 hpos) fun i' u' j x lt h3 h4 h5 h6 => ?_
   refine eEAA (at_ i' u' h3) fun v' h7 h8 h9 => ?_
   exact (iEEEEAAAA i' v' j x lt h7 (List.mem_append.mpr (.inl (by rw [<- h2, h8]; exact h4))) (h9 j x h5) (by rw [h6, h2]))
 · intro i v j x hv hj
   refine eEAA (back i v hv) fun u h1 h2 h3 => ?_
   rcases h3 j x hj with q | ⟨q, q'⟩
   · exact List.mem_append.mpr (.inl (by rw [<- h2]; exact tr.mem i u j x h1 q))
   · exact List.mem_append.mpr (.inr (by rw [q, <- h2, q']; exact List.mem_singleton.mpr rfl))
 · rw [List.map_append, List.mem_append]
   rintro (q | q)
   · exact tr.top q
   · exact hy (List.mem_singleton.mp q).symm
theorem link_enter {tm : List Team} {ab : List (Str × Str)} {k : Nat} {t : Team} {y : Shr} (lk : Link tm ab fun _ => False) (hk : tm[k]? = some t) (hy : y.ready = false) (hn : y.name ∉ tm.map (·.name)) : Link (tm.set k { t with l := t.l ++ [y] }) (ab ++ [(y.name, t.name)]) fun _ => False := by
 intro k3 t3 k4 t4 i z h3 _ h34 h4 hi hz
 have b3 : ∃ u3 : Team, tm[k3]? = some u3 /\ u3.name = t3.name /\ anyR t3.l = anyR u3.l := by
  by_cases q : k = k3
  · subst q
    rw [List.getElem?_set_self (Gs hk).1] at h3
    have := Oi h3
    subst this
    exact (iEAA t hk rfl (anyR_app hy))
  · rw [List.getElem?_set_ne q] at h3
    exact (iEAA t3 h3 rfl rfl)
 refine eEAA b3 fun u3 a1 a2 a3 => ?_; clear b3
 have n3 : t3.name ∈ tm.map (·.name) := Mn (iEA u3 (Mg a1) a2)
 have b4 : ∃ u4 : Team, tm[k4]? = some u4 /\ u4.name = t4.name /\ u4.l[i]? = some z := by
  by_cases q : k = k4
  · subst q
    rw [List.getElem?_set_self (Gs hk).1] at h4
    have := Oi h4
    subst this
    have hz' : (t.l ++ [y])[i]? = some z := hi
    by_cases hm : i < t.l.length
    · rw [List.getElem?_append_left hm] at hz'; exact (iEAA t hk rfl hz')
    · rw [List.getElem?_append_right (Nat.not_lt.mp hm)] at hz'
      have := List.mem_singleton.mp (Mg hz')
      rw [this] at hz
      exact absurd (hz ▸ n3) hn
  · rw [List.getElem?_set_ne q] at h4
    exact (iEAA t4 h4 rfl hi)
 refine eEAA b4 fun u4 c1 c2 c3 => ?_; clear b4
 rw [a3]
 refine lk k3 u3 k4 u4 i z a1 (fun q => q) ?_ c1 c3 (by rw [hz, a2])
 rcases List.mem_append.mp h34 with q | q
 · rw [a2, c2]; exact q
 · have e := List.mem_singleton.mp q
   have e1 : t3.name = y.name := congrArg (·.1) e
   exact absurd (e1 ▸ n3) hn
theorem tree_team {tm : List Team} {ab : List (Str × Str)} {T : Team} {k j : Nat} {t : Team} {x : Shr} (tr : Tree tm ab) (hT : T.l = []) (hk : tm[k]? = some t) (hj : t.l[j]? = some x) (hx : x.name = T.name) : Tree (tm ++ [T]) ab := by
 have l : ∀ (i : Nat) (u : Team), tm[i]? = some u -> (tm ++ [T])[i]? = some u := fun i u hu => by rw [List.getElem?_append_left (Gs hu).1]; exact hu
 have b : ∀ (i : Nat) (u : Team), (tm ++ [T])[i]? = some u -> tm[i]? = some u ∨ (u = T /\ i = tm.length) := fun i u hu => by
  by_cases hi : i < tm.length
  · rw [List.getElem?_append_left hi] at hu; exact .inl hu
  · have hl := (Gs hu).1
    rw [List.length_append] at hl
    simp at hl
    rw [List.getElem?_append_right (Nat.not_lt.mp hi)] at hu
    exact .inr ⟨List.mem_singleton.mp (Mg hu), by omega⟩
 refine ⟨?_, ?_, ?_, tr.top⟩
 · refine eEA tr.root fun u h1 h2 => ?_
   exact (iEA u (l 0 u h1) h2)
 · intro i u hu hpos
   rcases b i u hu with q | ⟨rfl, q⟩
   · refine eE4 (tr.up i u q hpos) fun i' u' j' x' y0' => eA2 y0' fun lt h3 h4 => ?_
     exact (iE4 i' u' j' x' (iA2 lt (l i' u' h3) h4))
   · exact (iEEEEAAAA k t j x (by rw [q]; exact (Gs hk).1) (l k t hk) (by rw [<- hx]; exact tr.mem k t j x hk hj) hj hx)
 · intro i u m z hu hm
   rcases b i u hu with q | ⟨rfl, q⟩
   · exact tr.mem i u m z q hm
   · rw [hT] at hm; simp at hm
theorem link_team {tm : List Team} {ab : List (Str × Str)} {T : Team} {k j : Nat} {t : Team} {x : Shr} (lk : Link tm ab fun _ => False) (tr : Tree tm ab) (an : (ab.map (·.1)).Nodup) (tn : (tm.map (·.name)).Nodup) (hT : T.l = []) (hk : tm[k]? = some t) (hj : t.l[j]? = some x) (nd : (t.l.map (·.name)).Nodup) (hx : x.name = T.name) (hr : x.ready = false) : Link (tm ++ [T]) ab fun _ => False := by
 have b : ∀ (i : Nat) (u : Team), (tm ++ [T])[i]? = some u -> tm[i]? = some u ∨ u = T := fun i u hu => by
  by_cases hi : i < tm.length
  · rw [List.getElem?_append_left hi] at hu; exact .inl hu
  · rw [List.getElem?_append_right (Nat.not_lt.mp hi)] at hu
    exact .inr (List.mem_singleton.mp (Mg hu))
 intro k3 t3 k4 t4 i z h3 _ h34 h4 hi hz
 rcases b k4 t4 h4 with q4 | rfl
 · rcases b k3 t3 h3 with q3 | rfl
   · exact lk k3 t3 k4 t4 i z q3 (fun q => q) h34 q4 hi hz
   · have e := uniq tr an tn hk hj q4 hi (by rw [hx, hz])
     subst e
     have : t4 = t := Oi (q4.symm.trans hk)
     subst this
     have e2 := nodup_at nd hj hi (by rw [hx, hz])
     subst e2
     have : z = x := Oi (hi.symm.trans hj)
     rw [this, hr, hT]; rfl
 · rw [hT] at hi; simp at hi
/-- how the rows stand to the house -/
structure Rel4 (tm : List Team) (ab : List (Str × Str)) (R : List Row4) : Prop where
 abm : ∀ p, p ∈ ab ↔ ∃ (k : Nat) (r : Row4), R[k]? = some r /\ r.here = true /\ p = (r.name, r.up)
 tns : ∀ x : Str, x ∈ tm.map (·.name) ↔ (x = "" ∨ ∃ (k : Nat) (r : Row4), R[k]? = some r /\ r.here = true /\ r.team = true /\ r.name = x)
 ent : ∀ (k : Nat) (r : Row4), R[k]? = some r -> r.here = true -> ∃ (i : Nat) (t : Team) (j : Nat) (x : Shr), tm[i]? = some t /\ t.name = r.up /\ t.l[j]? = some x /\ x.name = r.name
 tr : Tree tm ab
 lk : Link tm ab fun _ => False
 sh : ShT tm
theorem same_sh {tm tm' : List Team} (s : Same tm tm') (h : ShT tm) : ShT tm' := fun t' ht' => by
 obtain ⟨k, hk⟩ := Mi ht'
 refine eEAA (s.back hk) fun t ht _ lt => ?_
 obtain ⟨h1, h2⟩ := h t (Mg ht)
 have ll := congrArg List.length lt
 rw [List.length_map, List.length_map] at ll
 refine ⟨by rw [ll]; exact h1, fun x' hx' => ?_⟩
 obtain ⟨j, hj⟩ := Mi hx'
 refine eEAA (rows_at lt.symm hj) fun x hx _ sx => ?_
 rw [<- sx]
 exact h2 x (Mg hx)
/-- whoever changes no names: wake, rest, deal -/
theorem Rel4.same {tm tm' : List Team} {ab : List (Str × Str)} {R : List Row4} (h : Rel4 tm ab R) (s : Same tm tm') (lk : Link tm' ab fun _ => False) : Rel4 tm' ab R where
 abm := h.abm
 tns := by rw [s.names]; exact h.tns
 ent := fun k r hk hh => by
  refine eEEEEAAA (h.ent k r hk hh) fun i t j x a1 a2 a3 a4 => ?_
  refine eEAAAAA (s.at_ i t a1) fun t' b1 b2 _ _ _ b6 => ?_
  refine eEAA (rows_at b6 a3) fun x' c1 c2 _ => ?_
  exact (iEEEEAAA i t' j x' b1 (by rw [b2, a2]) c1 (by rw [c2, a4]))
 tr := h.tr.same s
 lk := lk
 sh := same_sh s h.sh
theorem row_inj {s : Int} {R : List Row4} (ok : ROk4 s R) (rl : R.length <= 26) {k m : Nat} {r q : Row4} (hk : R[k]? = some r) (hm : R[m]? = some q) (e : r.name = q.name) : k = m := by
 have h1 := (Gs hk).1
 have h2 := (Gs hm).1
 exact nm13_inj (s := s) (by omega) (by omega) (by rw [<- ok.nm k r hk, <- ok.nm m q hm, e])
theorem ROk4.ne {s : Int} {R : List Row4} (ok : ROk4 s R) {k : Nat} {r : Row4} (hk : R[k]? = some r) : r.name ≠ "" := fun e => by
 have := (nm13_ok s k).l1
 rw [<- ok.nm k r hk, e] at this
 exact absurd this (by decide)
theorem team_of {s : Int} {tm : List Team} {ab : List (Str × Str)} {R : List Row4} (h : Rel4 tm ab R) (ok : ROk4 s R) (rl : R.length <= 26) {k : Nat} {r : Row4} (hk : R[k]? = some r) : r.name ∈ tm.map (·.name) ↔ (r.here = true /\ r.team = true) := by
 rw [h.tns]
 constructor
 · rintro (q | ⟨m, q, h1, h2, h3, h4⟩)
   · exact absurd q (ok.ne hk)
   · have := row_inj ok rl h1 hk h4
     subst this
     rw [Oi (hk.symm.trans h1)]; exact ⟨h2, h3⟩
 · exact fun q => .inr (iEEAAA k r hk q.1 q.2 rfl)
theorem gone_new {s : Int} {tm : List Team} {ab : List (Str × Str)} {R : List Row4} (h : Rel4 tm ab R) (ok : ROk4 s R) (rl : R.length <= 26) {k : Nat} {r : Row4} (hk : R[k]? = some r) (hh : r.here = false) : r.name ∉ ab.map (·.1) /\ r.name ∉ tm.map (·.name) := by
 refine ⟨fun hm => ?_, fun hm => ?_⟩
 · refine eEA (Mm hm) fun p hp e => ?_
   refine eEEAA ((h.abm p).mp hp) fun m q h1 h2 z1' => ?_; subst z1'
   have := row_inj ok rl h1 hk e
   subst this
   rw [Oi (h1.symm.trans hk), hh] at h2; exact nomatch h2
 · rw [(team_of h ok rl hk).mp hm |>.1] at hh; exact nomatch hh
/-- somebody comes: a hand -/
theorem Rel4.come {s : Int} {tm : List Team} {ab : List (Str × Str)} {R : List Row4} {k i a : Nat} {t : Team} {r : Row4} {share : Int} (h : Rel4 tm ab R) (ok : ROk4 s R) (rl : R.length <= 26) (hk : R[k]? = some r) (hh : r.here = false) (hi : tm[i]? = some t) (s0 : 1 <= share) (s1 : share <= 12) (hl : t.l.length < 1000000) : Rel4 (tm.set i { t with l := t.l ++ [⟨r.name, a, share, 0, false⟩] }) (ab ++ [(r.name, t.name)]) (R.set k { r with up := t.name, team := false, here := true }) := by
 obtain ⟨hna, hnt⟩ := gone_new h ok rl hk hh
 have hkl := (Gs hk).1
 have hil := (Gs hi).1
 have at_ : ∀ (m : Nat) (q : Row4), (R.set k { r with up := t.name, team := false, here := true })[m]? = some q ↔ (m = k /\ q = { r with up := t.name, team := false, here := true }) ∨ (m ≠ k /\ R[m]? = some q) := fun m q => by
  by_cases e : k = m
  · subst e
    rw [List.getElem?_set_self hkl]
    exact ⟨fun w => .inl ⟨rfl, (Oi w).symm⟩, fun w => w.elim (fun w => by rw [w.2]) fun w => absurd rfl w.1⟩
  · rw [List.getElem?_set_ne e]
    exact ⟨fun w => .inr ⟨Ne.symm e, w⟩, fun w => w.elim (fun w => absurd w.1.symm e) fun w => w.2⟩
 refine ⟨fun p => ?_, fun x => ?_, fun m q hm hq => ?_, tree_enter (y := ⟨r.name, a, share, 0, false⟩) h.tr hi (ok.ne hk), link_enter (y := ⟨r.name, a, share, 0, false⟩) h.lk hi rfl hnt, fun u hu => ?_⟩
 · rw [List.mem_append, h.abm]
   constructor
   · rintro (⟨m, q, h1, h2, h3⟩ | q)
     · refine (iEEAA m q ((at_ m q).mpr (.inr ⟨fun e => ?_, h1⟩)) h2 h3)
       subst e
       rw [Oi (h1.symm.trans hk), hh] at h2; exact nomatch h2
     · exact (iEEAA k _ ((at_ k _).mpr (.inl ⟨rfl, rfl⟩)) rfl (List.mem_singleton.mp q))
   · rintro ⟨m, q, h1, h2, h3⟩
     rcases (at_ m q).mp h1 with ⟨_, rfl⟩ | ⟨_, w⟩
     · exact .inr (List.mem_singleton.mpr h3)
     · exact .inl (iEEAA m q w h2 h3)
 · rw [map_set_same (fun v : Team => v.name) (y := { t with l := t.l ++ [⟨r.name, a, share, 0, false⟩] }) hi rfl, h.tns]
   refine or_congr_right ⟨?_, ?_⟩
   · rintro ⟨m, q, h1, h2, h3⟩
     refine (iEEAA m q ((at_ m q).mpr (.inr ⟨fun e => ?_, h1⟩)) h2 h3)
     subst e
     rw [Oi (h1.symm.trans hk), hh] at h2; exact nomatch h2
   · rintro ⟨m, q, h1, h2, h3, h4⟩
     rcases (at_ m q).mp h1 with ⟨_, rfl⟩ | ⟨_, w⟩
     · exact nomatch h3
     · exact (iEEAAA m q w h2 h3 h4)
 · rcases (at_ m q).mp hm with ⟨_, rfl⟩ | ⟨_, w⟩
   · exact (iEEEEAAA i _ t.l.length ⟨r.name, a, share, 0, false⟩ (List.getElem?_set_self hil) rfl (by show (t.l ++ [_])[t.l.length]? = _; rw [List.getElem?_append_right (Nat.le_refl _), Nat.sub_self]; rfl) rfl)
   · refine eEEEEAAA (h.ent m q w hq) fun i2 u j x a1 a2 a3 a4 => ?_
     by_cases e : i = i2
     · subst e
       have : u = t := Oi (a1.symm.trans hi)
       subst this
       exact (iEEEEAAA i _ j x (List.getElem?_set_self hil) a2 (by show (u.l ++ [_])[j]? = _; rw [List.getElem?_append_left (Gs a3).1]; exact a3) a4)
     · exact (iEEEEAAA i2 u j x (by rw [List.getElem?_set_ne e]; exact a1) a2 a3 a4)
 · rcases mem_set_or hu with rfl | ⟨i2, _, hi2⟩
   · obtain ⟨h1, h2⟩ := h.sh t (Mg hi)
     refine ⟨by rw [List.length_append]; exact hl, fun x hx => ?_⟩
     rcases List.mem_append.mp hx with e | e
     · exact h2 x e
     · rw [List.mem_singleton.mp e]; exact ⟨s0, s1⟩
   · exact h.sh u (Mg hi2)
/-- the hand that came is a team -/
theorem Rel4.comeT {s : Int} {tm : List Team} {ab : List (Str × Str)} {R : List Row4} {k i j W d g : Nat} {t : Team} {r : Row4} {x : Shr} (h : Rel4 tm ab R) (ok : ROk4 s R) (rl : R.length <= 26) (hk : R[k]? = some r) (hh : r.here = true) (ht : r.team = false) (hi : tm[i]? = some t) (hj : t.l[j]? = some x) (hx : x.name = r.name) (hr : x.ready = false) (an : (ab.map (·.1)).Nodup) (tn : (tm.map (·.name)).Nodup) (nd : (t.l.map (·.name)).Nodup) : Rel4 (tm ++ [⟨r.name, W, d, g, 0, []⟩]) ab (R.set k { r with team := true }) := by
 have hkl := (Gs hk).1
 have at_ : ∀ (m : Nat) (q : Row4), (R.set k { r with team := true })[m]? = some q ↔ (m = k /\ q = { r with team := true }) ∨ (m ≠ k /\ R[m]? = some q) := fun m q => by
  by_cases e : k = m
  · subst e
    rw [List.getElem?_set_self hkl]
    exact ⟨fun w => .inl ⟨rfl, (Oi w).symm⟩, fun w => w.elim (fun w => by rw [w.2]) fun w => absurd rfl w.1⟩
  · rw [List.getElem?_set_ne e]
    exact ⟨fun w => .inr ⟨Ne.symm e, w⟩, fun w => w.elim (fun w => absurd w.1.symm e) fun w => w.2⟩
 have un : ∀ (m : Nat) (q : Row4), (R.set k { r with team := true })[m]? = some q -> ∃ q0, R[m]? = some q0 /\ q.here = q0.here /\ q.name = q0.name /\ q.up = q0.up := fun m q hm => by
  rcases (at_ m q).mp hm with ⟨rfl, rfl⟩ | ⟨_, w⟩
  · exact (iEAAA r hk rfl rfl rfl)
  · exact (iEAAA q w rfl rfl rfl)
 refine ⟨fun p => ?_, fun y => ?_, fun m q hm hq => ?_, tree_team h.tr rfl hi hj hx, link_team h.lk h.tr an tn rfl hi hj nd hx hr, fun u hu => ?_⟩
 · rw [h.abm]
   constructor
   · rintro ⟨m, q, h1, h2, h3⟩
     by_cases e : m = k
     · subst e
       have : q = r := Oi (h1.symm.trans hk)
       subst this
       exact (iEEAA m _ ((at_ m _).mpr (.inl ⟨rfl, rfl⟩)) h2 h3)
     · exact (iEEAA m q ((at_ m q).mpr (.inr ⟨e, h1⟩)) h2 h3)
   · rintro ⟨m, q, h1, h2, h3⟩
     refine eEAAA (un m q h1) fun q0 b1 b2 b3 b4 => ?_
     exact (iEEAA m q0 b1 (by rw [<- b2]; exact h2) (by rw [h3, b3, b4]))
 · rw [List.map_append, List.mem_append, h.tns]
   constructor
   · rintro ((q | ⟨m, q, h1, h2, h3, h4⟩) | q)
     · exact .inl q
     · refine .inr (iEEAAA m q ((at_ m q).mpr (.inr ⟨fun e => ?_, h1⟩)) h2 h3 h4)
       subst e
       rw [Oi (h1.symm.trans hk), ht] at h3; exact nomatch h3
     · exact .inr (iEEAAA k _ ((at_ k _).mpr (.inl ⟨rfl, rfl⟩)) hh rfl ((List.mem_singleton.mp q).symm))
   · rintro (q | ⟨m, q, h1, h2, h3, h4⟩)
     · exact .inl (.inl q)
     · rcases (at_ m q).mp h1 with ⟨_, rfl⟩ | ⟨_, w⟩
       · exact .inr (List.mem_singleton.mpr h4.symm)
       · exact .inl (.inr (iEEAAA m q w h2 h3 h4))
 · refine eEAAA (un m q hm) fun q0 b1 b2 b3 b4 => ?_
   refine eEEEEAAA (h.ent m q0 b1 (by rw [<- b2]; exact hq)) fun i2 u j2 x2 a1 a2 a3 a4 => ?_
   exact (iEEEEAAA i2 u j2 x2 (by rw [List.getElem?_append_left (Gs a1).1]; exact a1) (by rw [a2, b4]) a3 (by rw [a4, b3]))
 · rcases List.mem_append.mp hu with q | q
   · exact h.sh u q
   · rw [List.mem_singleton.mp q]
     exact ⟨Nat.zero_le _, fun x hx => nomatch hx⟩
theorem tree_entry {tm : List Team} {ab : List (Str × Str)} {k j : Nat} {t : Team} {x y : Shr} {p : Int} (tr : Tree tm ab) (hk : tm[k]? = some t) (hj : t.l[j]? = some x) (hy : y.name = x.name) : Tree (tm.set k { t with past := p, l := t.l.set j y }) ab := by
 have at_ : ∀ (i : Nat) (u : Team), tm[i]? = some u -> ∃ v : Team, (tm.set k { t with past := p, l := t.l.set j y })[i]? = some v /\ v.name = u.name /\ ∀ (m : Nat) (z : Shr), u.l[m]? = some z -> ∃ z', v.l[m]? = some z' /\ z'.name = z.name := fun i u hu => by
  by_cases q : k = i
  · subst q
    have : u = t := Oi (hu.symm.trans hk)
    subst this
    refine (iEAA _ (List.getElem?_set_self (Gs hk).1) rfl (fun m z hz => ?_))
    by_cases e : j = m
    · subst e
      have : z = x := Oi (hz.symm.trans hj)
      subst this
      exact (iEA y (List.getElem?_set_self (Gs hj).1) hy)
    · exact (iEA z (by show (u.l.set j y)[m]? = _; rw [List.getElem?_set_ne e]; exact hz) rfl)
  · exact (iEAA u (by rw [List.getElem?_set_ne q]; exact hu) rfl (fun m z hz => (iEA z hz rfl)))
 have back : ∀ (i : Nat) (v : Team), (tm.set k { t with past := p, l := t.l.set j y })[i]? = some v -> ∃ u : Team, tm[i]? = some u /\ u.name = v.name /\ ∀ (m : Nat) (z : Shr), v.l[m]? = some z -> ∃ z', u.l[m]? = some z' /\ z'.name = z.name := fun i v hv => by
  by_cases q : k = i
  · subst q
    rw [List.getElem?_set_self (Gs hk).1] at hv
    have := Oi hv
    subst this
    refine (iEAA t hk rfl (fun m z hz => ?_))
    have hz' : (t.l.set j y)[m]? = some z := hz
    by_cases e : j = m
    · subst e
      rw [List.getElem?_set_self (Gs hj).1] at hz'
      have := Oi hz'
      subst this
      exact (iEA x hj hy.symm)
    · rw [List.getElem?_set_ne e] at hz'; exact (iEA z hz' rfl)
  · rw [List.getElem?_set_ne q] at hv
    exact (iEAA v hv rfl (fun m z hz => (iEA z hz rfl)))
 refine ⟨?_, fun i v hv hpos => ?_, fun i v m z hv hz => ?_, tr.top⟩
 · refine eEA tr.root fun u h1 h2 => ?_
   refine eEAA (at_ 0 u h1) fun v h3 h4 _ => ?_
   exact (iEA v h3 (h4.trans h2))
 · refine eEAA (back i v hv) fun u h1 h2 _ => ?_
   refine eEEEEAAAA (tr.up i u h1 hpos) fun i' u' m z lt b1 b2 b3 b4 => ?_
   refine eEAA (at_ i' u' b1) fun v' c1 c2 c3 => ?_
   refine eEA (c3 m z b3) fun z' d1 d2 => ?_
   exact (iEEEEAAAA i' v' m z' lt c1 (by rw [<- h2, c2]; exact b2) d1 (by rw [d2, b4, h2]))
 · refine eEAA (back i v hv) fun u h1 h2 h3 => ?_
   refine eEA (h3 m z hz) fun z' d1 d2 => ?_
   rw [<- h2, <- d2]
   exact tr.mem i u m z' h1 d1
theorem erase_at {α : Type} {l : List α} {i k : Nat} {t : α} : (l.eraseIdx i)[k]? = some t ↔ (k < i /\ l[k]? = some t) ∨ (i <= k /\ l[k + 1]? = some t) := by
 rw [List.getElem?_eraseIdx]
 split
 · rename_i h
   exact ⟨fun q => .inl ⟨h, q⟩, fun q => q.elim (fun q => q.2) fun q => absurd h (by omega)⟩
 · rename_i h
   exact ⟨fun q => .inr ⟨by omega, q⟩, fun q => q.elim (fun q => absurd q.1 h) fun q => q.2⟩
theorem erase_to {α : Type} {l : List α} {i k : Nat} {t : α} (h : l[k]? = some t) (n : k ≠ i) : ∃ k', (l.eraseIdx i)[k']? = some t /\ (k' = k /\ k < i ∨ k' + 1 = k /\ i < k) := by
 by_cases q : k < i
 · exact (iEA k (erase_at.mpr (.inl ⟨q, h⟩)) (.inl ⟨rfl, q⟩))
 · obtain ⟨m, rfl⟩ : ∃ m, k = m + 1 := ⟨k - 1, by omega⟩
   exact (iEA m (erase_at.mpr (.inr ⟨by omega, h⟩)) (.inr ⟨rfl, by omega⟩))
/-- an empty team goes -/
theorem tree_drop {tm : List Team} {ab : List (Str × Str)} {i : Nat} {u : Team} (tr : Tree tm ab) (hi : tm[i]? = some u) (hu : u.l = []) (pos : 0 < i) : Tree (tm.eraseIdx i) ab := by
 refine ⟨?_, fun k t hk hpos => ?_, fun k t j x hk hj => ?_, tr.top⟩
 · refine eEA tr.root fun t h1 h2 => ?_
   exact (iEA t (erase_at.mpr (.inl ⟨pos, h1⟩)) h2)
 · have key : ∀ m, tm[m]? = some t -> 0 < m -> (∀ k' : Nat, k' < m -> k' ≠ i -> ∃ k2, k2 < k /\ ∀ t', tm[k']? = some t' -> (tm.eraseIdx i)[k2]? = some t') -> ∃ (k' : Nat) (t' : Team) (j : Nat) (x : Shr), k' < k /\ (tm.eraseIdx i)[k']? = some t' /\ (t.name, t'.name) ∈ ab /\ t'.l[j]? = some x /\ x.name = t.name := fun m hm mp hmap => by
    refine eEEEEAAAA (tr.up m t hm mp) fun k' t' j x lt b1 b2 b3 b4 => ?_
    have hne : k' ≠ i := fun e => by
     subst e
     have : t' = u := Oi (b1.symm.trans hi)
     rw [this, hu] at b3; simp at b3
    refine eEA (hmap k' lt hne) fun k2 lt2 h2 => ?_
    exact (iEEEEAAAA k2 t' j x lt2 (h2 t' b1) b2 b3 b4)
   rcases erase_at.mp hk with ⟨q1, q2⟩ | ⟨q1, q2⟩
   · exact key k q2 hpos fun k' lt hne => (iEA k' lt (fun t' h => erase_at.mpr (.inl ⟨by omega, h⟩)))
   · refine key (k + 1) q2 (Nat.succ_pos _) fun k' lt hne => ?_
     by_cases q : k' < i
     · exact (iEA k' (by omega) (fun t' h => erase_at.mpr (.inl ⟨q, h⟩)))
     · obtain ⟨m, rfl⟩ : ∃ m, k' = m + 1 := ⟨k' - 1, by omega⟩
       exact (iEA m (by omega) (fun t' h => erase_at.mpr (.inr ⟨by omega, h⟩)))
 · rcases erase_at.mp hk with ⟨_, q⟩ | ⟨_, q⟩
   · exact tr.mem k t j x q hj
   · exact tr.mem (k + 1) t j x q hj
theorem link_drop {tm : List Team} {ab : List (Str × Str)} {i : Nat} (lk : Link tm ab fun _ => False) : Link (tm.eraseIdx i) ab fun _ => False := by
 have b : ∀ (k : Nat) (t : Team), (tm.eraseIdx i)[k]? = some t -> ∃ m, tm[m]? = some t := fun k t h => by
  rcases erase_at.mp h with ⟨_, q⟩ | ⟨_, q⟩
  · exact ⟨_, q⟩
  · exact ⟨_, q⟩
 intro k t k' t' j x h1 _ h2 h3 h4 h5
 obtain ⟨m, hm⟩ := b k t h1
 obtain ⟨m', hm'⟩ := b k' t' h3
 exact lk m t m' t' j x hm (fun q => q) h2 hm' h4 h5
theorem anyR_erase {l : List Shr} {j : Nat} {x : Shr} (hj : l[j]? = some x) (hr : x.ready = false) : anyR (l.eraseIdx j) = anyR l := by
 unfold anyR
 rw [Bool.eq_iff_iff, List.any_eq_true, List.any_eq_true]
 constructor
 · rintro ⟨y, hy, e⟩
   exact (iEA y ((List.eraseIdx_sublist l j).subset hy) e)
 · rintro ⟨y, hy, e⟩
   obtain ⟨m, hm⟩ := Mi hy
   have hne : m ≠ j := fun q => by subst q; rw [Oi (hm.symm.trans hj), hr] at e; exact nomatch e
   refine eEA (erase_to hm hne) fun k' h1 _ => ?_
   exact (iEA y (Mg h1) e)
/-- a hand goes -/
theorem tree_erase {tm : List Team} {ab : List (Str × Str)} {k j : Nat} {t : Team} {x : Shr} (tr : Tree tm ab) (an : (ab.map (·.1)).Nodup) (tn : (tm.map (·.name)).Nodup) (nd : ∀ t ∈ tm, (t.l.map (·.name)).Nodup) (hk : tm[k]? = some t) (hj : t.l[j]? = some x) (hn : x.name ∉ tm.map (·.name)) : Tree (tm.set k { t with l := t.l.eraseIdx j }) (ab.filter fun p => decide (p.1 ≠ x.name)) := by
 have hkl := (Gs hk).1
 have back : ∀ (i : Nat) (v : Team), (tm.set k { t with l := t.l.eraseIdx j })[i]? = some v -> ∃ u : Team, tm[i]? = some u /\ u.name = v.name /\ ∀ (m : Nat) (z : Shr), v.l[m]? = some z -> ∃ m', u.l[m']? = some z /\ ¬ (i = k /\ m' = j) := fun i v hv => by
  by_cases q : k = i
  · subst q
    rw [List.getElem?_set_self hkl] at hv
    have := Oi hv
    subst this
    refine (iEAA t hk rfl (fun m z hz => ?_))
    rcases erase_at.mp (show (t.l.eraseIdx j)[m]? = some z from hz) with ⟨q1, q2⟩ | ⟨q1, q2⟩
    · exact (iEA m q2 (fun w => by omega))
    · exact (iEA (m + 1) q2 (fun w => by omega))
  · rw [List.getElem?_set_ne q] at hv
    exact (iEAA v hv rfl (fun m z hz => (iEA m hz (fun w => q w.1.symm))))
 refine ⟨?_, fun i v hv hpos => ?_, fun i v m z hv hz => ?_, fun hm => ?_⟩
 · refine eEA tr.root fun u h1 h2 => ?_
   by_cases q : k = 0
   · subst q
     have : u = t := Oi (h1.symm.trans hk)
     subst this
     exact (iEA _ (List.getElem?_set_self hkl) h2)
   · exact (iEA u (by rw [List.getElem?_set_ne q]; exact h1) h2)
 · refine eEAA (back i v hv) fun u h1 h2 _ => ?_
   refine eEEEEAAAA (tr.up i u h1 hpos) fun i' u' m z lt b1 b2 b3 b4 => ?_
   have hzn : z.name ≠ x.name := fun e => hn (by rw [<- e, b4]; exact Mn (iEA u (Mg h1) rfl))
   have hmem : (v.name, u'.name) ∈ ab.filter fun p => decide (p.1 ≠ x.name) := List.mem_filter.mpr ⟨by rw [<- h2]; exact b2, decide_eq_true (by show v.name ≠ x.name; rw [<- h2, <- b4]; exact hzn)⟩
   by_cases q : k = i'
   · subst q
     have : u' = t := Oi (b1.symm.trans hk)
     subst this
     have hne : m ≠ j := fun e => by subst e; rw [Oi (b3.symm.trans hj)] at hzn; exact hzn rfl
     refine eEA (erase_to b3 hne) fun m' c1 _ => ?_
     exact (iEEEEAAAA k _ m' z lt (List.getElem?_set_self hkl) hmem c1 (by rw [b4, h2]))
   · exact (iEEEEAAAA i' u' m z lt (by rw [List.getElem?_set_ne q]; exact b1) hmem b3 (by rw [b4, h2]))
 · refine eEAA (back i v hv) fun u h1 h2 h3 => ?_
   refine eEA (h3 m z hz) fun m' d1 d2 => ?_
   rw [<- h2]
   refine List.mem_filter.mpr ⟨tr.mem i u m' z h1 d1, decide_eq_true fun e => d2 ?_⟩
   have e1 := uniq tr an tn h1 d1 hk hj e
   subst e1
   have : u = t := Oi (h1.symm.trans hk)
   subst this
   exact ⟨rfl, nodup_at (nd u (Mg hk)) d1 hj e⟩
 · refine eEA (Mm hm) fun p hp e => ?_
   exact tr.top (Mn (iEA p ((List.mem_filter.mp hp).1) e))
theorem link_erase {tm : List Team} {ab : List (Str × Str)} {k j : Nat} {t : Team} {x : Shr} (lk : Link tm ab fun _ => False) (hk : tm[k]? = some t) (hj : t.l[j]? = some x) (hr : x.ready = false) : Link (tm.set k { t with l := t.l.eraseIdx j }) (ab.filter fun p => decide (p.1 ≠ x.name)) fun _ => False := by
 have hkl := (Gs hk).1
 have back : ∀ (i : Nat) (v : Team), (tm.set k { t with l := t.l.eraseIdx j })[i]? = some v -> ∃ u : Team, tm[i]? = some u /\ u.name = v.name /\ anyR v.l = anyR u.l /\ ∀ (m : Nat) (z : Shr), v.l[m]? = some z -> ∃ m', u.l[m']? = some z := fun i v hv => by
  by_cases q : k = i
  · subst q
    rw [List.getElem?_set_self hkl] at hv
    have := Oi hv
    subst this
    refine (iEAAA t hk rfl (anyR_erase hj hr) (fun m z hz => ?_))
    rcases erase_at.mp (show (t.l.eraseIdx j)[m]? = some z from hz) with ⟨q1, q2⟩ | ⟨q1, q2⟩
    · exact ⟨m, q2⟩
    · exact ⟨m + 1, q2⟩
  · rw [List.getElem?_set_ne q] at hv
    exact (iEAAA v hv rfl rfl (fun m z hz => ⟨m, hz⟩))
 intro k3 t3 k4 t4 i z h3 _ h34 h4 hi hz
 refine eEAAA (back k3 t3 h3) fun u3 a1 a2 a3 _ => ?_
 refine eEAAA (back k4 t4 h4) fun u4 b1 b2 _ b4 => ?_
 obtain ⟨m', c1⟩ := b4 i z hi
 rw [a3]
 exact lk k3 u3 k4 u4 m' z a1 (fun q => q) (by rw [a2, b2]; exact (List.mem_filter.mp h34).1) b1 c1 (by rw [hz, a2])
theorem sht_erase {tm : List Team} {k j : Nat} {t : Team} (h : ShT tm) (hk : tm[k]? = some t) : ShT (tm.set k { t with l := t.l.eraseIdx j }) := fun u hu => by
 rcases mem_set_or hu with rfl | ⟨i, _, hi⟩
 · obtain ⟨h1, h2⟩ := h t (Mg hk)
   have sub := List.eraseIdx_sublist t.l j
   exact ⟨Nat.le_trans sub.length_le h1, fun x hx => h2 x (sub.subset hx)⟩
 · exact h u (Mg hi)
theorem set_at4 {R : List Row4} {k : Nat} {r r' : Row4} (hk : R[k]? = some r) (m : Nat) (q : Row4) : (R.set k r')[m]? = some q ↔ (m = k /\ q = r') ∨ (m ≠ k /\ R[m]? = some q) := by
 have hkl := (Gs hk).1
 by_cases e : k = m
 · subst e
   rw [List.getElem?_set_self hkl]
   exact ⟨fun w => .inl ⟨rfl, (Oi w).symm⟩, fun w => w.elim (fun w => by rw [w.2]) fun w => absurd rfl w.1⟩
 · rw [List.getElem?_set_ne e]
   exact ⟨fun w => .inr ⟨Ne.symm e, w⟩, fun w => w.elim (fun w => absurd w.1.symm e) fun w => w.2⟩
/-- a row of one who is not there may change -/
theorem Rel4.alter {tm : List Team} {ab : List (Str × Str)} {R : List Row4} {k : Nat} {r r' : Row4} (h : Rel4 tm ab R) (hk : R[k]? = some r) (h0 : r.here = false) (h1 : r'.here = false) : Rel4 tm ab (R.set k r') := by
 have iff : ∀ (P : Row4 -> Prop), (∃ (m : Nat) (q : Row4), R[m]? = some q /\ q.here = true /\ P q) ↔ ∃ (m : Nat) (q : Row4), (R.set k r')[m]? = some q /\ q.here = true /\ P q := fun P => by
  constructor
  · rintro ⟨m, q, a1, a2, a3⟩
    refine (iEEAA m q ((set_at4 hk m q).mpr (.inr ⟨fun e => ?_, a1⟩)) a2 a3)
    subst e
    rw [Oi (a1.symm.trans hk), h0] at a2; exact nomatch a2
  · rintro ⟨m, q, a1, a2, a3⟩
    rcases (set_at4 hk m q).mp a1 with ⟨_, rfl⟩ | ⟨_, w⟩
    · rw [h1] at a2; exact nomatch a2
    · exact (iEEAA m q w a2 a3)
 refine ⟨fun p => (h.abm p).trans (iff fun q => p = (q.name, q.up)), fun x => (h.tns x).trans (or_congr_right (iff fun q => q.team = true /\ q.name = x)), fun m q a1 a2 => ?_, h.tr, h.lk, h.sh⟩
 rcases (set_at4 hk m q).mp a1 with ⟨_, rfl⟩ | ⟨_, w⟩
 · rw [h1] at a2; exact nomatch a2
 · exact h.ent m q w a2
theorem ROk4.alter {s : Int} {R : List Row4} {k : Nat} {r r' : Row4} (ok : ROk4 s R) (hk : R[k]? = some r) (e : r'.name = r.name) : ROk4 s (R.set k r') := ⟨fun m q hm => by
 rcases (set_at4 hk m q).mp hm with ⟨rfl, rfl⟩ | ⟨_, w⟩
 · rw [e]; exact ok.nm m r hk
 · exact ok.nm m q w⟩
/-- another share -/
theorem Rel4.resh {tm : List Team} {ab : List (Str × Str)} {R : List Row4} {k j : Nat} {t : Team} {x y : Shr} (h : Rel4 tm ab R) (hk : tm[k]? = some t) (hj : t.l[j]? = some x) (hn : y.name = x.name) (hr : y.ready = x.ready) (s0 : 1 <= y.share) (s1 : y.share <= 12) : Rel4 (tm.set k { t with past := t.past, l := t.l.set j y }) ab R := by
 refine ⟨h.abm, by rw [map_set_same (fun v : Team => v.name) (y := { t with past := t.past, l := t.l.set j y }) hk rfl]; exact h.tns, fun m q a1 a2 => ?_, tree_entry h.tr hk hj hn, link_clock h.lk hk hj hn hr, fun u hu => ?_⟩
 · refine eEEEEAAA (h.ent m q a1 a2) fun i u j2 x2 b1 b2 b3 b4 => ?_
   by_cases e : k = i
   · subst e
     have : u = t := Oi (b1.symm.trans hk)
     subst this
     by_cases e2 : j = j2
     · subst e2
       have : x2 = x := Oi (b3.symm.trans hj)
       subst this
       exact (iEEEEAAA k _ j y (List.getElem?_set_self (Gs hk).1) b2 (List.getElem?_set_self (Gs hj).1) (by rw [hn, b4]))
     · exact (iEEEEAAA k _ j2 x2 (List.getElem?_set_self (Gs hk).1) b2 (by show (u.l.set j y)[j2]? = _; rw [List.getElem?_set_ne e2]; exact b3) b4)
   · exact (iEEEEAAA i u j2 x2 (by rw [List.getElem?_set_ne e]; exact b1) b2 b3 b4)
 · rcases mem_set_or hu with rfl | ⟨i, _, hi⟩
   · obtain ⟨h1, h2⟩ := h.sh t (Mg hk)
     refine ⟨by rw [List.length_set]; exact h1, fun z hz => ?_⟩
     rcases mem_set_or hz with rfl | ⟨m, _, hm⟩
     · exact ⟨s0, s1⟩
     · exact h2 z (Mg hm)
   · exact h.sh u (Mg hi)
/-- an empty team goes, its mark first -/
theorem Rel4.dropT {s : Int} {tm : List Team} {ab : List (Str × Str)} {R : List Row4} {k i : Nat} {u : Team} {r : Row4} (h : Rel4 tm ab R) (ok : ROk4 s R) (rl : R.length <= 26) (tn : (tm.map (·.name)).Nodup) (hk : R[k]? = some r) (hh : r.here = true) (hi : tm[i]? = some u) (hu : u.l = []) (un : u.name = r.name) : Rel4 (tm.eraseIdx i) ab (R.set k { r with team := false }) := by
 have pos : 0 < i := Nat.pos_of_ne_zero fun e => by
  subst e
  refine eEA h.tr.root fun t h1 h2 => ?_
  have : t = u := Oi (h1.symm.trans hi)
  rw [this, un] at h2
  exact ok.ne hk h2
 have unq : ∀ (m : Nat) (q : Row4), (R.set k { r with team := false })[m]? = some q -> ∃ q0, R[m]? = some q0 /\ q.here = q0.here /\ q.name = q0.name /\ q.up = q0.up := fun m q hm => by
  rcases (set_at4 hk m q).mp hm with ⟨rfl, rfl⟩ | ⟨_, w⟩
  · exact (iEAAA r hk rfl rfl rfl)
  · exact (iEAAA q w rfl rfl rfl)
 refine ⟨fun p => ?_, fun x => ?_, fun m q hm hq => ?_, tree_drop h.tr hi hu pos, link_drop h.lk, fun v hv => h.sh v ((List.eraseIdx_sublist tm i).subset hv)⟩
 · rw [h.abm]
   constructor
   · rintro ⟨m, q, h1, h2, h3⟩
     by_cases e : m = k
     · subst e
       have : q = r := Oi (h1.symm.trans hk)
       subst this
       exact (iEEAA m _ ((set_at4 hk m _).mpr (.inl ⟨rfl, rfl⟩)) h2 h3)
     · exact (iEEAA m q ((set_at4 hk m q).mpr (.inr ⟨e, h1⟩)) h2 h3)
   · rintro ⟨m, q, h1, h2, h3⟩
     refine eEAAA (unq m q h1) fun q0 b1 b2 b3 b4 => ?_
     exact (iEEAA m q0 b1 (by rw [<- b2]; exact h2) (by rw [h3, b3, b4]))
 · have nm : x ∈ (tm.eraseIdx i).map (·.name) ↔ (x ∈ tm.map (·.name) /\ x ≠ r.name) := by
    rw [<- filter_erase tn hi, un]
    constructor
    · intro w
      refine eEA (Mm w) fun v hv e => ?_
      obtain ⟨a1, a2⟩ := List.mem_filter.mp hv
      exact ⟨Mn (iEA v a1 e), by rw [<- e]; exact of_decide_eq_true a2⟩
    · rintro ⟨w, ne⟩
      refine eEA (Mm w) fun v hv e => ?_
      exact Mn (iEA v (List.mem_filter.mpr ⟨hv, decide_eq_true (by rw [e]; exact ne)⟩) e)
   rw [nm, h.tns]
   constructor
   · rintro ⟨q | ⟨m, q, h1, h2, h3, h4⟩, ne⟩
     · exact .inl q
     · refine .inr (iEEAAA m q ((set_at4 hk m q).mpr (.inr ⟨fun e => ?_, h1⟩)) h2 h3 h4)
       subst e
       rw [<- h4, Oi (h1.symm.trans hk)] at ne
       exact ne rfl
   · rintro (q | ⟨m, q, h1, h2, h3, h4⟩)
     · exact ⟨.inl q, fun e => ok.ne hk (by rw [<- e, q])⟩
     · rcases (set_at4 hk m q).mp h1 with ⟨_, rfl⟩ | ⟨ne, w⟩
       · exact nomatch h3
       · exact ⟨.inr (iEEAAA m q w h2 h3 h4), fun e => ne (row_inj ok rl w hk (by rw [h4, e]))⟩
 · refine eEAAA (unq m q hm) fun q0 b1 b2 b3 b4 => ?_
   refine eEEEEAAA (h.ent m q0 b1 (by rw [<- b2]; exact hq)) fun i2 v j2 x2 a1 a2 a3 a4 => ?_
   have hne : i2 ≠ i := fun e => by
    subst e
    have : v = u := Oi (a1.symm.trans hi)
    rw [this, hu] at a3; simp at a3
   refine eEA (erase_to a1 hne) fun k' c1 _ => ?_
   exact (iEEEEAAA k' v j2 x2 c1 (by rw [a2, b4]) a3 (by rw [a4, b3]))
/-- a hand goes -/
theorem Rel4.gone {s : Int} {tm : List Team} {ab : List (Str × Str)} {R : List Row4} {k i j : Nat} {t : Team} {x : Shr} {r : Row4} (h : Rel4 tm ab R) (ok : ROk4 s R) (rl : R.length <= 26) (nd : Ndp tm) (an : (ab.map (·.1)).Nodup) (hk : R[k]? = some r) (hh : r.here = true) (ht : r.team = false) (hi : tm[i]? = some t) (hj : t.l[j]? = some x) (hx : x.name = r.name) (hr : x.ready = false) : Rel4 (tm.set i { t with l := t.l.eraseIdx j }) (ab.filter fun p => decide (p.1 ≠ x.name)) (R.set k { r with here := false }) := by
 have hn : x.name ∉ tm.map (·.name) := by rw [hx, team_of h ok rl hk, ht]; exact fun q => nomatch q.2
 have hil := (Gs hi).1
 refine ⟨fun p => ?_, fun y => ?_, fun m q hm hq => ?_, tree_erase h.tr an nd.tn nd.nn hi hj hn, link_erase h.lk hi hj hr, sht_erase h.sh hi⟩
 · rw [List.mem_filter, h.abm, hx]
   constructor
   · rintro ⟨⟨m, q, h1, h2, h3⟩, ne⟩
     have ne' := of_decide_eq_true ne
     refine (iEEAA m q ((set_at4 hk m q).mpr (.inr ⟨fun e => ne' ?_, h1⟩)) h2 h3)
     subst e
     rw [h3, Oi (h1.symm.trans hk)]
   · rintro ⟨m, q, h1, h2, h3⟩
     rcases (set_at4 hk m q).mp h1 with ⟨_, rfl⟩ | ⟨ne, w⟩
     · exact nomatch h2
     · exact ⟨(iEEAA m q w h2 h3), decide_eq_true fun e => ne (row_inj ok rl w hk (by rw [h3] at e; exact e))⟩
 · rw [map_set_same (fun v : Team => v.name) (y := { t with l := t.l.eraseIdx j }) hi rfl, h.tns]
   refine or_congr_right ⟨?_, ?_⟩
   · rintro ⟨m, q, h1, h2, h3, h4⟩
     refine (iEEAAA m q ((set_at4 hk m q).mpr (.inr ⟨fun e => ?_, h1⟩)) h2 h3 h4)
     subst e
     rw [Oi (h1.symm.trans hk), ht] at h3; exact nomatch h3
   · rintro ⟨m, q, h1, h2, h3, h4⟩
     rcases (set_at4 hk m q).mp h1 with ⟨_, rfl⟩ | ⟨_, w⟩
     · exact nomatch h2
     · exact (iEEAAA m q w h2 h3 h4)
 · rcases (set_at4 hk m q).mp hm with ⟨_, rfl⟩ | ⟨ne, w⟩
   · exact nomatch hq
   · refine eEEEEAAA (h.ent m q w hq) fun i2 v j2 x2 a1 a2 a3 a4 => ?_
     by_cases e : i = i2
     · subst e
       have : v = t := Oi (a1.symm.trans hi)
       subst this
       have hne : j2 ≠ j := fun e2 => by
        subst e2
        rw [Oi (a3.symm.trans hj), hx] at a4
        exact ne (row_inj ok rl w hk a4.symm)
       refine eEA (erase_to a3 hne) fun k' c1 _ => ?_
       exact (iEEEEAAA i _ k' x2 (List.getElem?_set_self hil) a2 c1 a4)
     · exact (iEEEEAAA i2 v j2 x2 (by rw [List.getElem?_set_ne e]; exact a1) a2 a3 a4)
/-- how much there is -/
structure Bd (N : Nat) (tm : List Team) (ab : List (Str × Str)) : Prop where
 tl : tm.length <= N
 al : ab.length <= N
 g : ∀ t ∈ tm, t.g <= 100 + N
 l : ∀ t ∈ tm, t.l.length <= N
theorem Bd.up {N M : Nat} {tm : List Team} {ab : List (Str × Str)} (h : Bd N tm ab) (k : N <= M) : Bd M tm ab := ⟨Nat.le_trans h.tl k, Nat.le_trans h.al k, fun t ht => Nat.le_trans (h.g t ht) (by omega), fun t ht => Nat.le_trans (h.l t ht) k⟩
theorem Bd.same {N : Nat} {tm tm' : List Team} {ab : List (Str × Str)} (h : Bd N tm ab) (s : Same tm tm') : Bd N tm' ab := by
 refine ⟨by rw [s.len]; exact h.tl, h.al, fun u hu => ?_, fun u hu => ?_⟩
 · obtain ⟨k, hk⟩ := Mi hu
   refine eEA (Mm (gs_mem s hk)) fun t ht e => ?_
   rw [<- e]; exact h.g t ht
 · obtain ⟨k, hk⟩ := Mi hu
   refine eEAA (s.back hk) fun t ht _ lt => ?_
   have ll := congrArg List.length lt
   rw [List.length_map, List.length_map] at ll
   rw [ll]; exact h.l t (Mg ht)
theorem Bd.set {N k : Nat} {tm : List Team} {ab : List (Str × Str)} {t t' : Team} (h : Bd N tm ab) (hk : tm[k]? = some t) (g : t'.g = t.g) (l : t'.l.length <= N) : Bd N (tm.set k t') ab := by
 refine ⟨by rw [List.length_set]; exact h.tl, h.al, fun u hu => ?_, fun u hu => ?_⟩
 · rcases mem_set_or hu with rfl | ⟨i, _, hi⟩
   · rw [g]; exact h.g t (Mg hk)
   · exact h.g u (Mg hi)
 · rcases mem_set_or hu with rfl | ⟨i, _, hi⟩
   · exact l
   · exact h.l u (Mg hi)
theorem row_okn {s : Int} {R : List Row4} (ok : ROk4 s R) {k : Nat} {r : Row4} (hk : R[k]? = some r) : okN r.name := by rw [ok.nm k r hk]; exact nm13_ok s k
/-- somebody has entered the team up -/
def Ent (tm : List Team) (up nm : Str) (share : Int) (tm' : List Team) : Prop := ∃ (i : Nat) (t : Team) (a : Nat), tm[i]? = some t /\ t.name = up /\ tm' = tm.set i { t with l := t.l ++ [⟨nm, a, share, 0, false⟩] }
theorem come_hand {H dw da k N : Nat} {s share : Int} {tm : List Team} {ab : List (Str × Str)} {R : List Row4} {r : Row4} {up : Str} (h : HouseD σ H dw da tm ab) (rel : Rel4 tm ab R) (ok : ROk4 s R) (rl : R.length <= 26) (bd : Bd N tm ab) (hN : N <= 500) (hk : R[k]? = some r) (hh : r.here = false) (hup : up ∈ tm.map (·.name)) (s0 : 1 <= share) (s1 : share <= 12)
 (hq : ∀ tm' ab' σ', HouseD σ' H dw da tm' ab' -> Rel4 tm' ab' (R.set k { r with up := up, team := false, here := true }) -> Bd (N + 1) tm' ab' -> KpH σ σ' -> Ent tm up r.name share tm' -> Q .none σ') : WFn (cx w mean mg mb) ⟨n + 5, true, sc⟩ m_House_hand [.ref H, .str r.name, .str up, .int share] ρ Q X σ := by
 refine eEA (Mm hup) fun t ht et => ?_
 obtain ⟨i, hi⟩ := Mi ht
 obtain ⟨hna, hnt⟩ := gone_new rel ok rl hk hh
 have okn := row_okn ok hk
 have hal := bd.al
 have htl := bd.l t ht
 have hnt2 : r.name ∉ t.l.map (·.name) := fun hx => by
  refine eEA (Mm hx) fun y hy e => ?_
  obtain ⟨m, hm⟩ := Mi hy
  exact hna (Mn (iEA _ (rel.tr.mem i t m y hi hm) e))
 subst et
 refine hand_ok h (by have := okn.l8; exact Nat.le_trans ‹_› (by decide)) okn.le.ascii okn.good hna hi s0 s1 hnt2 (by omega) (by omega) fun a σ' h' k' => ?_
 refine hq _ _ σ' h' (rel.come ok rl hk hh hi s0 s1 (by omega)) ?_ k' (iEEEAA i t a hi rfl rfl)
 have b1 := (bd.up (Nat.le_succ N)).set (t' := { t with l := t.l ++ [⟨r.name, a, share, 0, false⟩] }) hi rfl (by rw [List.length_append]; exact Nat.succ_le_succ htl)
 exact ⟨b1.tl, by rw [List.length_append]; exact Nat.succ_le_succ hal, b1.g, b1.l⟩
theorem come_team {H dw da k N : Nat} {s share : Int} {tm : List Team} {ab : List (Str × Str)} {R : List Row4} {r : Row4} {up : Str} (h : HouseD σ H dw da tm ab) (rel : Rel4 tm ab R) (ok : ROk4 s R) (rl : R.length <= 26) (bd : Bd N tm ab) (hN : N <= 500) (hk : R[k]? = some r) (hh : r.here = false) (hup : up ∈ tm.map (·.name)) (s0 : 1 <= share) (s1 : share <= 12)
 (hq : ∀ tm' ab' σ', HouseD σ' H dw da tm' ab' -> Rel4 tm' ab' (R.set k { r with up := up, team := true, here := true }) -> Bd (N + 1) tm' ab' -> KpH σ σ' -> (∃ tm0 W d g, Ent tm up r.name share tm0 /\ tm' = tm0 ++ [⟨r.name, W, d, g, 0, []⟩]) -> Q .none σ') : WFn (cx w mean mg mb) ⟨n + 5, true, sc⟩ m_House_team [.ref H, .str r.name, .str up, .int share] ρ Q X σ := by
 refine eEA (Mm hup) fun t ht et => ?_
 obtain ⟨i, hi⟩ := Mi ht
 obtain ⟨hna, hnt⟩ := gone_new rel ok rl hk hh
 have okn := row_okn ok hk
 have hal := bd.al
 have htl := bd.l t ht
 have htt := bd.tl
 have hnt2 : r.name ∉ t.l.map (·.name) := fun hx => by
  refine eEA (Mm hx) fun y hy e => ?_
  obtain ⟨m, hm⟩ := Mi hy
  exact hna (Mn (iEA _ (rel.tr.mem i t m y hi hm) e))
 subst et
 have hgn : 101 + N ∉ tm.map (·.g) := fun hx => by
  refine eEA (Mm hx) fun v hv e => ?_
  have := bd.g v hv
  omega
 refine team_ok (101 + N) (by omega) h hgn (by have := okn.l8; exact Nat.le_trans ‹_› (by decide)) okn.le.ascii okn.good hna hnt hi s0 s1 hnt2 (by omega) (by omega) (by omega) fun a W' d' σ' h' k' => ?_
 have b1 := (bd.up (Nat.le_succ N)).set (t' := { t with l := t.l ++ [⟨r.name, a, share, 0, false⟩] }) hi rfl (by rw [List.length_append]; exact Nat.succ_le_succ htl)
 have rel1 := rel.come (a := a) ok rl hk hh hi s0 s1 (by omega)
 have hil := (Gs hi).1
 have hi1 : (tm.set i { t with l := t.l ++ [⟨r.name, a, share, 0, false⟩] })[i]? = some { t with l := t.l ++ [⟨r.name, a, share, 0, false⟩] } := List.getElem?_set_self hil
 have hj1 : (t.l ++ [(⟨r.name, a, share, 0, false⟩ : Shr)])[t.l.length]? = some ⟨r.name, a, share, 0, false⟩ := by rw [List.getElem?_append_right (Nat.le_refl _), Nat.sub_self]; rfl
 have nd1 := (h'.whl { t with l := t.l ++ [⟨r.name, a, share, 0, false⟩] } (List.mem_append.mpr (.inl (Mg hi1)))).nn
 have tn1 : ((tm.set i { t with l := t.l ++ [⟨r.name, a, share, 0, false⟩] }).map (·.name)).Nodup := by rw [map_set_same (fun v : Team => v.name) (y := { t with l := t.l ++ [⟨r.name, a, share, 0, false⟩] }) hi rfl]; exact h.tn
 have hk1 : (R.set k { r with up := t.name, team := false, here := true })[k]? = some { r with up := t.name, team := false, here := true } := List.getElem?_set_self (Gs hk).1
 have rel2 := Rel4.comeT (W := W') (d := d') (g := 101 + N) rel1 (ok.alter hk rfl) (by rw [List.length_set]; exact rl) hk1 rfl rfl hi1 hj1 rfl rfl h'.an tn1 nd1
 rw [List.set_set] at rel2
 refine hq _ _ σ' h' rel2 ⟨?_, by rw [List.length_append]; exact Nat.succ_le_succ hal, fun u hu => ?_, fun u hu => ?_⟩ k' (iE4 _ W' d' (101 + N) ⟨(iEEEAA i t a hi rfl rfl), rfl⟩)
 · rw [List.length_append, List.length_set]; exact Nat.succ_le_succ htt
 · rcases List.mem_append.mp hu with q | q
   · exact b1.g u q
   · rw [List.mem_singleton.mp q]; show 101 + N <= _; omega
 · rcases List.mem_append.mp hu with q | q
   · exact b1.l u q
   · rw [List.mem_singleton.mp q]; exact Nat.zero_le _
theorem lreshare_c {H dw da k N : Nat} {share : Int} {tm : List Team} {ab : List (Str × Str)} {R : List Row4} {r : Row4} (h : HouseD σ H dw da tm ab) (rel : Rel4 tm ab R) (bd : Bd N tm ab) (hk : R[k]? = some r) (hh : r.here = true) (s0 : 1 <= share) (s1 : share <= 12)
 (hq : ∀ tm' σ' v, HouseD σ' H dw da tm' ab -> Rel4 tm' ab R -> Bd N tm' ab -> KpH σ σ' -> (∃ (i j : Nat) (t : Team) (x : Shr), tm[i]? = some t /\ t.name = r.up /\ t.l[j]? = some x /\ x.name = r.name /\ tm' = tm.set i { t with l := t.l.set j (shared t.past share x) }) -> Q v σ') : WFn (cx w mean mg mb) ⟨n + 4, true, sc⟩ m_House_reshare [.ref H, .str r.name, .int share] ρ Q X σ := by
 refine eEEEEAAA (rel.ent k r hk hh) fun i t j x a1 a2 a3 a4 => ?_
 have hm := rel.tr.mem i t j x a1 a3
 obtain ⟨g0, g1⟩ := (rel.sh t (Mg a1)).2 x (Mg a3)
 rw [<- a4]
 refine reshare_h h a1 hm a3 s0 s1 g0 g1 fun σ' h' k' => ?_
 exact hq _ σ' _ h' (rel.resh a1 a3 (y := shared t.past share x) rfl rfl s0 s1) (bd.set (t' := { t with l := t.l.set j (shared t.past share x) }) a1 rfl (by rw [List.length_set]; exact bd.l t (Mg a1))) k' (iEEEEAAAA i j t x a1 a2 a3 a4 rfl)
theorem leave_handC {H dw da k j : Nat} {tm : List Team} {ab : List (Str × Str)} {t : Team} {x : Shr} (h : HouseD σ H dw da tm ab) (tr : Tree tm ab) (lk : Link tm ab fun _ => False) (hk : tm[k]? = some t) (hn : x.name ∉ tm.map (·.name)) (hj : t.l[j]? = some x) (hz : ∀ u ∈ tm, u.l.length <= 1000000) (hal : ab.length <= 1000000)
 (hq : ∀ tm1 t1 x1 σ', Chg rested x.name false tm tm1 ab -> tm1[k]? = some t1 -> t1.name = t.name -> t1.l[j]? = some x1 -> x1.name = x.name -> x1.ready = false -> HouseD σ' H dw da (tm1.set k { t1 with l := t1.l.eraseIdx j }) (ab.filter fun p => decide (p.1 ≠ x.name)) -> KpH σ σ' -> Q .none σ') : WFn (cx w mean mg mb) ⟨n + 5, true, sc⟩ m_House_leave [.ref H, .str x.name] ρ Q X σ := by
 have hm := tr.mem k t j x hk hj
 have hH := h.hou
 have hd := h.dws
 have hg0 := getK_noteam hn
 refine WFn.fn2 (p1 := "self") (p2 := "name") (FnAt.of2 (rfl : (Mine.hd.heap_39 w.params).lookup m_House_leave = _) (by kernel_rfl) (fun _ _ => rfl) (by kernel_rfl)) ?_
 refine Wc (WS.assign (fun _ _ _ => rfl) (WE.mp PL ‹_› ms_House_need (Po PL PN) ?_))
 refine Wf (hneed_c h hm ?_)
 refine Wl (by kernel_rfl) ?_
 refine Wc (WS.ite (WT.cmp1 rfl (WE.lo ?_)))
 refine PE.use (PE.at PL ‹_› lk_head) ?_
 refine WC.inS_f ‹_› ‹_› ?_
 refine Wb (if_ff (Wc (WS.expr (fun _ _ _ => rfl) (WE.mp PL ‹_› ms_House_rest (Po PL PN) ?_))))
 refine Wf (hrest_c h tr lk hk hj hn hz fun tm1 σ1 U lk1 => ?_)
 refine eEAAAAA (U.s.at_ k t hk) fun t1 a1 a2 _ _ _ a6 => ?_
 refine eEAA (rows_at a6 hj) fun x1 b1 b2 _ => ?_
 refine eEEAAA (U.hd k t j x hk hj hn) fun t2 x2 c1 c2 c3 c4 => ?_
 have : t2 = t1 := Oi (c1.symm.trans a1)
 subst this
 have : x2 = x1 := Oi (c2.symm.trans b1)
 subst this
 have c4 : x2.ready = false := by rw [c4]; exact if_pos rfl
 have h1 := U.h
 have k1 := U.kp
 have hz1 : t2.l.length <= 1000000 := by have := congrArg List.length a6; rw [List.length_map, List.length_map] at this; rw [this]; exact hz t (Mg hk)
 clear hH hd
 have hH := h1.hou
 have hd := h1.dws
 have hmt := Mg a1
 have hgt := getK_team h1 hmt
 rw [a2] at hgt
 have hwt := h1.whl t2 hmt
 have hW : σ1 t2.W = some (t2.g, .inst a_Wheel [("past", .int t2.past), ("sharers", .ref t2.d)]) := hwt.whl
 refine Wn (Wc (WS.expr (fun _ _ _ => rfl) (WE.mp (PE.sub (PE.at PL ‹_› lk_head) PL (PI.sdict (fun _ _ => rfl) ‹_› ‹_›)) ‹_› ms_Wheel_leave (Po PL PN) ?_)))
 rw [<- b2]
 refine Wf (leave_c hwt hz1 b1 fun σ2 h2 o2 => ?_)
 have hh := h1.one (t' := { t2 with l := t2.l.eraseIdx j }) a1 rfl rfl rfl h2 o2
 have k2 : KpH σ σ2 := fun b t' o q m1 m100 => o2.at (k1 b t' o q m1 m100) (by have := h1.gg t2 hmt; omega)
 clear hH hd
 have hH := hh.hou
 have hda := hh.das
 rw [b2]
 refine Wc (WS.expr (fun _ _ _ => rfl) (WE.method (fun _ _ => rfl) rfl rfl rfl (PE.use (PE.at PL ‹_› (lk_tail (by kernel_rfl) lk_head)) ?_)))
 refine WM.dictPop hda ?_
 refine And.intro (Callee.con rfl) (PEs.use (Po PL PN) ?_)
 refine WCall.dictPop hda (by simpa [aents] using hal) (getK_above hh hm) ?_
 rw [delK_aents]
 refine Wn ?_
 exact hq tm1 t2 x2 _ ⟨U.u, U.s, U.hd, lk1⟩ a1 a2 b1 b2 c4 (hh.popA x.name) fun b t' o q m1 m100 => Hp.tag hda m1 (k2 b t' o q m1 m100)
theorem lleaveH_c {H dw da k N : Nat} {s : Int} {tm : List Team} {ab : List (Str × Str)} {R : List Row4} {r : Row4} (h : HouseD σ H dw da tm ab) (rel : Rel4 tm ab R) (ok : ROk4 s R) (rl : R.length <= 26) (bd : Bd N tm ab) (hN : N <= 500) (hk : R[k]? = some r) (hh : r.here = true) (hteam : r.team = false)
 (hq : ∀ tm' ab' σ' v, HouseD σ' H dw da tm' ab' -> Rel4 tm' ab' (R.set k { r with here := false }) -> Bd N tm' ab' -> KpH σ σ' -> (∃ (tm1 : List Team) (i j : Nat) (t1 : Team) (x1 : Shr), Chg rested r.name false tm tm1 ab /\ tm1[i]? = some t1 /\ t1.name = r.up /\ t1.l[j]? = some x1 /\ x1.name = r.name /\ tm' = tm1.set i { t1 with l := t1.l.eraseIdx j }) -> Q v σ') : WFn (cx w mean mg mb) ⟨n + 5, true, sc⟩ m_House_leave [.ref H, .str r.name] ρ Q X σ := by
 refine eEEEEAAA (rel.ent k r hk hh) fun i t j x a1 a2 a3 a4 => ?_
 have hal := bd.al
 have htl := bd.tl
 have rlS : (R.set k { r with team := false }).length <= 26 := by rw [List.length_set]; exact rl
 have hn : x.name ∉ tm.map (·.name) := by rw [a4, team_of rel ok rl hk, hteam]; exact fun q => nomatch q.2
 rw [<- a4]
 refine leave_handC h rel.tr rel.lk a1 hn a3 (fun u hu => (rel.sh u hu).1) (by omega) fun tm1 t1 x1 σ' cg b1 b2 b3 b4 b5 h' k' => ?_
 have sm := cg.s
 have lk1 := cg.lk
 have rel1 := rel.same sm lk1
 have bd1 := bd.same sm
 have an := h.an
 have ndp : Ndp tm1 := by
  refine ⟨by rw [sm.names]; exact h.tn, fun u hu => ?_⟩
  obtain ⟨m, hm⟩ := Mi hu
  refine eEAA (sm.back hm) fun u0 hu0 _ lu => ?_
  have := congrArg (List.map (·.1)) lu
  rw [List.map_map, List.map_map] at this
  have e : u.l.map (·.name) = u0.l.map (·.name) := this
  rw [e]; exact (h.whl u0 (Mg hu0)).nn
 have rel2 := rel1.gone ok rl ndp an hk hh hteam b1 b3 (b4.trans a4) b5
 rw [b4] at rel2
 refine hq _ _ σ' _ h' rel2 ?_ k' (iE5 tm1 i j t1 x1 (iA5 (by rw [<- a4]; exact cg) b1 (b2.trans a2) b3 (b4.trans a4) rfl))
 have b := bd1.set (t' := { t1 with l := t1.l.eraseIdx j }) b1 rfl (Nat.le_trans (List.eraseIdx_sublist ..).length_le (bd1.l t1 (Mg b1)))
 exact ⟨b.tl, Nat.le_trans (List.length_filter_le ..) hal, b.g, b.l⟩
theorem erase_set {α : Type} {l : List α} {iu i i' : Nat} {y : α} (h : i' = i /\ i < iu ∨ i' + 1 = i /\ iu < i) : (l.eraseIdx iu).set i' y = (l.set i y).eraseIdx iu := by
 rcases h with ⟨rfl, h⟩ | ⟨rfl, h⟩
 · exact (List.eraseIdx_set_gt h).symm
 · exact (List.eraseIdx_set_lt h).symm
theorem lleaveT_c {H dw da k N : Nat} {s : Int} {tm : List Team} {ab : List (Str × Str)} {R : List Row4} {r : Row4} (h : HouseD σ H dw da tm ab) (rel : Rel4 tm ab R) (ok : ROk4 s R) (rl : R.length <= 26) (bd : Bd N tm ab) (hN : N <= 500) (hk : R[k]? = some r) (hh : r.here = true) (hteam : r.team = true) (hw : ∀ (m : Nat) (q : Row4), R[m]? = some q -> q.here = true -> q.up ≠ r.name)
 (hq : ∀ tm' ab' σ' v, HouseD σ' H dw da tm' ab' -> Rel4 tm' ab' (R.set k { r with here := false }) -> Bd N tm' ab' -> KpH σ σ' -> (∃ (iu i j : Nat) (u t : Team) (x : Shr), tm[iu]? = some u /\ u.name = r.name /\ tm[i]? = some t /\ t.name = r.up /\ t.l[j]? = some x /\ x.name = r.name /\ x.ready = false /\ tm' = (tm.set i { t with l := t.l.eraseIdx j }).eraseIdx iu) -> Q v σ') : WFn (cx w mean mg mb) ⟨n + 5, true, sc⟩ m_House_leave [.ref H, .str r.name] ρ Q X σ := by
 refine eEEEEAAA (rel.ent k r hk hh) fun i t j x a1 a2 a3 a4 => ?_
 have hal := bd.al
 have htl := bd.tl
 have rlS : (R.set k { r with team := false }).length <= 26 := by rw [List.length_set]; exact rl
 have hin : r.name ∈ tm.map (·.name) := (team_of rel ok rl hk).mpr ⟨hh, hteam⟩
 refine eEA (Mm hin) fun u hu eu => ?_
 obtain ⟨iu, hiu⟩ := Mi hu
 have hul : u.l = [] := by
  cases e : u.l with
  | nil => rfl
  | cons y l =>
   have hm := rel.tr.mem iu u 0 y hiu (by rw [e]; rfl)
   refine eEEAA ((rel.abm _).mp hm) fun m q c1 c2 c3 => ?_
   exact absurd ((congrArg (·.2) c3).symm.trans eu) (hw m q c1 c2)
 have rel1 := rel.dropT ok rl h.tn hk hh hiu hul eu
 have fe := filter_erase h.tn hiu
 have hne : i ≠ iu := fun e => by
  subst e
  have : u = t := Oi (hiu.symm.trans a1)
  rw [<- this, hul] at a3; simp at a3
 refine eEA (erase_to a1 hne) fun i' d1 d2 => ?_
 have hxr : x.ready = false := by
  rw [rel.lk iu u i t j x hiu (fun q => q) (by rw [eu, <- a4]; exact rel.tr.mem i t j x a1 a3) a1 a3 (by rw [a4, eu]), hul]; rfl
 rw [<- a4]
 have ex : u.name = x.name := by rw [eu, a4]
 rw [ex] at fe
 have sub := List.eraseIdx_sublist tm iu
 refine leave_team h hu ex hul (by rw [fe]; exact d1) (rel.tr.mem i t j x a1 a3) a3 (rel.sh t (Mg a1)).1 (by omega) (by omega) fun σ' h' k' => ?_
 rw [fe] at h'
 have hk1 : (R.set k { r with team := false })[k]? = some { r with team := false } := List.getElem?_set_self (Gs hk).1
 have ndp : Ndp (tm.eraseIdx iu) := ⟨List.Nodup.sublist (sub.map _) h.tn, fun v hv => (h.whl v (sub.subset hv)).nn⟩
 have rel2 := rel1.gone (ok.alter hk rfl) rlS ndp h.an hk1 hh rfl d1 a3 a4 hxr
 rw [List.set_set] at rel2
 have hk2 : (R.set k { r with team := false, here := false })[k]? = some { r with team := false, here := false } := List.getElem?_set_self (Gs hk).1
 have rel3 := rel2.alter (r' := { r with here := false }) hk2 rfl rfl
 rw [List.set_set] at rel3
 have bd1 : Bd N (tm.eraseIdx iu) ab := ⟨Nat.le_trans sub.length_le htl, hal, fun v hv => bd.g v (sub.subset hv), fun v hv => bd.l v (sub.subset hv)⟩
 have b := bd1.set (t' := { t with l := t.l.eraseIdx j }) d1 rfl (Nat.le_trans (List.eraseIdx_sublist ..).length_le (bd.l t (Mg a1)))
 exact hq _ _ σ' _ h' rel3 ⟨b.tl, Nat.le_trans (List.length_filter_le ..) hal, b.g, b.l⟩ k' (iE6 iu i j u t x (iA7 hiu eu a1 a2 a3 a4 hxr (erase_set d2)))
/-- the law's own wheels, by the teams' names -/
structure MirD (σ : Hp) (dm : Nat) (tm : List Team) : Prop where
 dic : σ dm = some (2, .sdict (tents tm))
 whl : ∀ t ∈ tm, WheelD σ t.W t.d t.g t.past t.l
 tn : (tm.map (·.name)).Nodup
 tg : (tm.map (·.g)).Nodup
 gg : ∀ t ∈ tm, 20 <= t.g /\ t.g < 96
theorem MirD.keep {σ σ' : Hp} {dm : Nat} {tm : List Team} (h : MirD σ dm tm) (k : ∀ {a t o}, σ a = some (t, o) -> t ≠ 1 -> t < 100 -> σ' a = some (t, o)) : MirD σ' dm tm :=
 ⟨k h.dic (by decide) (by decide), fun t ht => (h.whl t ht).keep ⟨fun a o q => k q (by have := h.gg t ht; omega) (by have := h.gg t ht; omega)⟩, h.tn, h.tg, h.gg⟩
theorem getK_mir {σ : Hp} {dm : Nat} {tm : List Team} (h : MirD σ dm tm) {t : Team} (ht : t ∈ tm) : getK (tents tm) t.name = some (.ref t.W) :=
 getK_mem (by rw [tents_names]; exact h.tn) (Mn (iEA t ht rfl))
theorem MirD.one {σ σ' : Hp} {dm k : Nat} {tm : List Team} {t t' : Team} (h : MirD σ dm tm) (hk : tm[k]? = some t) (hn : t'.name = t.name) (hW : t'.W = t.W) (hg : t'.g = t.g) (hw : WheelD σ' t'.W t'.d t'.g t'.past t'.l) (o : Oth t.g σ σ') : MirD σ' dm (tm.set k t') := by
 have hmt := Mg hk
 refine ⟨?_, fun u hu => ?_, ?_, ?_, fun u hu => ?_⟩
 · have : tents (tm.set k t') = tents tm := map_set_same _ hk (by rw [hn, hW])
   rw [this]; exact o.at h.dic (by have := h.gg t hmt; exact om_lo ‹_› (by first | assumption | decide))
 · rcases mem_set_or hu with rfl | ⟨j, hj, hju⟩
   · exact hw
   · exact (h.whl u (Mg hju)).keep (o.kpt fun q => hj (nodup_at h.tg hju hk q))
 · rw [map_set_same (fun v : Team => v.name) hk hn]; exact h.tn
 · rw [map_set_same (fun v : Team => v.g) hk hg]; exact h.tg
 · rcases mem_set_or hu with rfl | ⟨j, _, hju⟩
   · rw [hg]; exact h.gg t hmt
   · exact h.gg u (Mg hju)
theorem above_c {B k : Nat} {R : List Row5} {ts : List Nat} {r : Row5} (hR : Rows5 σ B R ts) (hz : R.length <= 26) (hk : R[k]? = some r) (hu : ∀ (m : Nat) (q : Row5), R[m]? = some q -> q.name = r.name -> m = k) (hq : Q (.str r.up) σ) : WFn (cx w mean mg mb) ⟨n + 1, true, sc⟩ a_law_above [.ref B, .str r.name] ρ Q X σ := by
 have hB := hR.lst
 have tl := hR.len
 refine WFn.fn2 (p1 := "_law_rows") (p2 := "_law_name") (FnAt.of2 (rfl : (Mine.hd.heap_39 w.params).lookup a_law_above = _) (by kernel_rfl) (fun _ _ => rfl) (by kernel_rfl)) ?_
 refine Wc (WS.for rfl (fun _ _ => rfl) ?_)
 refine WE.lo ?_
 refine (iEEA _ _ (Iterable.list (ListAt.own hB)) ?_)
 refine WFor.byIdx (fun j ρ' σ' => σ' = σ /\ j <= k /\ ρ' "_law_name" = some (.str r.name)) (iA2 rfl (Nat.zero_le _) (by walk_at "lk")) ?_ ?_
 · rintro j v ρ' σ' hv ⟨rfl, hj, r0⟩
   refine ⟨ListAt.own hB, ?_⟩
   rw [List.getElem?_map] at hv
   refine eEA (Option.map_eq_some_iff.mp hv) fun u hu' z1' => ?_; subst z1'
   refine eEA (hR.row.get hu') fun q hq' hqu => ?_
   have hqu2 : σ' u = some (7, .list [.str q.name, .str q.up, .int q.share, .bool q.team, .bool q.rdy, .bool q.here]) := hqu
   have z0 : [MV.str q.name, .str q.up, .int q.share, .bool q.team, .bool q.rdy, .bool q.here][Int.toNat 0]? = some (.str q.name) := rfl
   have z1 : [MV.str q.name, .str q.up, .int q.share, .bool q.team, .bool q.rdy, .bool q.here][Int.toNat 1]? = some (.str q.up) := rfl
   by_cases e : q.name = r.name
   · have hjk := hu j q hq' e
     subst hjk
     have : q = r := Oi (hq'.symm.trans hk)
     subst this
     have eb : (q.name == q.name) = true := beq_self_eq_true _
     refine Wl (by kernel_rfl) ?_
     refine WSs.thenP (PT.cmp1 rfl (Px PL ‹_› ‹_›) PL PC.eqS) ‹_› ?_
     refine WSs.retP (Px PL ‹_› ‹_›) ?_
     exact hq
   · have eb : (q.name == r.name) = false := beq_eq_false_iff_ne.mpr e
     refine Wl (by kernel_rfl) ?_
     refine WSs.skipP (PT.cmp1 rfl (Px PL ‹_› ‹_›) PL PC.eqS) ‹_› ?_
     refine Wn ((iA2 rfl ?_ (by walk_at "lk")))
     have : j ≠ k := fun w => by
      subst w
      rw [Oi (hq'.symm.trans hk)] at e
      exact e rfl
     omega
 · rintro ρ' σ' ⟨_, hj, _⟩
   have := (Gs hk).1
   rw [List.length_map, tl] at hj
   omega
/-- what the rows tell of who stands where -/
structure Abv (ab : List (Str × Str)) (R : List Row5) : Prop where
 up : ∀ nm u, (nm, u) ∈ ab -> ∃ (i : Nat) (r : Row5), R[i]? = some r /\ r.name = nm /\ r.up = u
 uq : ∀ (i i' : Nat) (r r' : Row5), R[i]? = some r -> R[i']? = some r' -> r.name = r'.name -> i = i'
theorem stirUp_c {B dm k j : Nat} {tm : List Team} {ab : List (Str × Str)} {R : List Row5} {ts : List Nat} {t : Team} {x : Shr} (m : MirD σ dm tm) (tr : Tree tm ab) (lk : Link tm ab fun _ => False) (an : (ab.map (·.1)).Nodup) (hR : Rows5 σ B R ts) (hz : R.length <= 26) (av : Abv ab R) (hk : tm[k]? = some t) (hj : t.l[j]? = some x) (hn : x.name ∉ tm.map (·.name)) (hx : x.ready = false) (hzl : ∀ u ∈ tm, u.l.length <= 1000000)
 (hq : ∀ tm' σ', MirD σ' dm tm' -> Chg woken x.name true tm tm' ab -> KpT (tm.map (·.g)) σ σ' -> Q .none σ') : WFn (cx w mean mg mb) ⟨n + 4, true, sc⟩ a_law_stirred [.ref B, .ref dm, .str x.name, .bool true] ρ Q X σ := by
 have hwt := m.whl t (Mg hk)
 refine WFn.fn4 (p1 := "_law_rows") (p2 := "_law_wheels") (p3 := "_law_name") (p4 := "_law_up") (FnAt.of4 (rfl : (Mine.hd.heap_39 w.params).lookup a_law_stirred = _) (by kernel_rfl) (fun _ _ _ _ => rfl) (by kernel_rfl)) ?_
 refine WSs.assignP (fun _ _ _ => rfl) PE.bool (by kernel_rfl) ?_
 refine Wc ?_
 refine WS.whileO (fun kk ρ' σ' => KpT (tm.map (·.g)) σ σ' /\ ρ' "_law_rows" = some (.ref B) /\ ρ' "_law_wheels" = some (.ref dm) /\ ρ' "_law_up" = some (.bool true) /\
  ((∃ k1 tm1 t1 j1 y1, kk = k1 + 1 /\ MirD σ' dm tm1 /\ Same tm tm1 /\ Link tm1 ab (fun i => k1 < i) /\ tm1[k1]? = some t1 /\ t1.l[j1]? = some y1 /\ y1.ready = false /\
    Upd woken tm (tm1.set k1 { t1 with past := t1.past, l := t1.l.set j1 (woken t1.past y1) }) /\ Hands (tm.map (·.name)) (fun n b => if n = x.name then true else b) tm (tm1.set k1 { t1 with past := t1.past, l := t1.l.set j1 (woken t1.past y1) }) /\ Link (tm1.set k1 { t1 with past := t1.past, l := t1.l.set j1 (woken t1.past y1) }) ab (· = k1) /\ ρ' "_law_name" = some (.str y1.name) /\ ρ' "_law_going" = some (.bool true)) ∨
   ∃ tm1, MirD σ' dm tm1 /\ Chg woken x.name true tm tm1 ab /\ ρ' "_law_going" = some (.bool false))) (k + 1) (iA4 (fun a t o q _ => q) (by walk_at "lk") (by walk_at "lk") (by walk_at "lk") (.inl (iE5 k tm t j x (iA11 rfl m (Same.refl _) (fun k3 t3 k4 t4 i z h1 _ => lk k3 t3 k4 t4 i z h1 (fun q => q)) hk hj hx (Upd.set hk hj) ?_ ?_ (by walk_at "lk") (by walk_at "lk"))))) ?_
 · have := Hands.set (N := tm.map (·.name)) tr an m.tn hk hj hwt.nn (y := woken t.past x) woken_nm (p := t.past)
   rwa [woken_ready] at this
 · exact link_set lk tr an m.tn hk hj hwt.nn woken_nm (fun k3 n3 => ⟨n3, .inl fun q => q⟩) fun k3 t3 h3 e3 _ _ => absurd (Mn (iEA t3 (Mg h3) e3)) hn
 clear hwt
 rintro kk ρ' σ' ⟨kp, r0, r1, r2, hor⟩
 intro KL hKL hKB hKR
 rcases hor with ⟨k1, tm1, t1, j1, y1, rfl, m1, sm1, lk1, hk1, hj1, hy1, up1, hd1, ln1, r3, r4⟩ | ⟨tm1, m1, ch, r4⟩
 · have hmt := Mg hk1
   have tr1 := tr.same sm1
   have hRR := hR.keep (σ' := σ') (fun q => kp _ _ _ q (fun w => by refine eEA (Mm w) fun v hv e => ?_; have := m.gg v hv; omega)) (fun q => kp _ _ _ q (fun w => by refine eEA (Mm w) fun v hv e => ?_; have := m.gg v hv; omega))
   refine eEEAA (av.up _ _ (tr1.mem k1 t1 j1 y1 hk1 hj1)) fun ri r hri hrn hru => ?_
   have hgt := getK_mir m1 hmt
   have hd := m1.dic
   have hw1 := m1.whl t1 hmt
   have hW : σ' t1.W = some (t1.g, .inst a_Wheel [("past", .int t1.past), ("sharers", .ref t1.d)]) := hw1.whl
   have hgg := m1.gg t1 hmt
   have hgs := gs_mem sm1 hk1
   have hl1 : t1.l.length <= 1000000 := by
    refine eEAA (sm1.back hk1) fun t2 h2 _ l2 => ?_
    have ll := congrArg List.length l2
    rw [List.length_map, List.length_map] at ll
    rw [ll]; exact hzl t2 (Mg h2)
   refine PT.use (PT.plain (fun _ _ => rfl) PL) ?_
   refine if_tt (Wc (WS.assign (fun _ _ _ => rfl) (WE.cp g_law_above fn_law_above (Po PL (Po PL PN)) ?_)))
   rw [<- hrn]
   refine Wf (above_c hRR hz hri (fun i q a1 a2 => av.uq _ _ _ _ a1 hri a2) ?_)
   rw [hru]
   refine Wl (by kernel_rfl) ?_
   refine Wc (WS.assign (fun _ _ _ => rfl) (WE.cmp1 rfl (WE.mp (PE.sub PL PL (PI.sdict (fun _ _ => rfl) ‹_› ‹_›)) ‹_› ms_Wheel_whose PN ?_)))
   refine Wf (whose_c hw1 hl1 fun b hb => ?_)
   have m2 := m1.one (t' := t1) hk1 rfl rfl rfl (hw1.keep (σ' := σ'.put b t1.g (.list ((ents t1.l).map fun p => .str p.1))) (Kpt.new hb.none)) (Oth.refl.new hb.none)
   rw [set_same hk1] at m2
   have k2 : KpT (tm.map (·.g)) σ (σ'.put b t1.g (.list ((ents t1.l).map fun p => .str p.1))) := fun a t o q w => Hp.new hb.none (kp _ _ _ q w)
   generalize σ'.put b t1.g (.list ((ents t1.l).map fun p => .str p.1)) = σ2 at m2 k2 ⊢
   clear hb hW hw1 hd m1
   have hd := m2.dic
   have hw2 := m2.whl t1 hmt
   have hW : σ2 t1.W = some (t1.g, .inst a_Wheel [("past", .int t1.past), ("sharers", .ref t1.d)]) := hw2.whl
   have sm2 : Same tm (tm1.set k1 { t1 with past := t1.past, l := t1.l.set j1 (woken t1.past y1) }) := sm1.trans (Same.set hk1 (iA4 rfl rfl rfl rfl (set_nsh hj1 woken_nm woken_sh)))
   have hkN : (tm1.set k1 { t1 with past := t1.past, l := t1.l.set j1 (woken t1.past y1) })[k1]? = some { t1 with past := t1.past, l := t1.l.set j1 (woken t1.past y1) } := List.getElem?_set_self (Gs hk1).1
   have arN : anyR (t1.l.set j1 (woken t1.past y1)) = true := anyR_set (Gs hj1).1 woken_ready
   have trN := tr.same sm2
   have fin : ∀ σ3, WheelD σ3 t1.W t1.d t1.g t1.past (t1.l.set j1 (woken t1.past y1)) -> Oth t1.g σ2 σ3 -> MirD σ3 dm (tm1.set k1 { t1 with past := t1.past, l := t1.l.set j1 (woken t1.past y1) }) /\ KpT (tm.map (·.g)) σ σ3 := fun σ3 h3 o3 =>
    ⟨m2.one (t' := { t1 with past := t1.past, l := t1.l.set j1 (woken t1.past y1) }) hk1 rfl rfl rfl h3 o3, fun a t o q w => o3.at (k2 _ _ _ q w) fun e => w (e ▸ hgs)⟩
   cases har : anyR t1.l with
   | false =>
    rw [pick_no har]
    simp only [whoV]
    by_cases k0 : k1 = 0
    · subst k0
      refine eEA tr1.root fun t2 e1 e2 => ?_
      have : t1 = t2 := Oi (hk1.symm.trans e1)
      subst this
      have nb : (t1.name != ("" : Str)) = false := by rw [e2]; rfl
      refine WE.none (WC.isNN ?_)
      refine Wl (by kernel_rfl) ?_
      refine WSs.thenP (PT.plain (fun _ _ => rfl) PL) rfl ?_
      refine Wc (WS.expr (fun _ _ _ => rfl) (WE.mp (PE.sub PL PL (PI.sdict (fun _ _ => rfl) ‹_› ‹_›)) ‹_› ms_Wheel_wake (Po PL PN) ?_))
      refine Wf (wake_c hw2 hj1 fun σ3 h3 o3 => ?_)
      obtain ⟨m3, k3⟩ := fin σ3 h3 o3
      refine Wc (WS.assign (fun _ _ _ => rfl) (WE.and (WE.lo ?_)))
      refine Wb (if_tt (WE.and1 ?_))
      refine PE.use (PE.cmp1 rfl PL PE.str PC.neS) ?_
      refine Wl (by kernel_rfl) ?_
      refine Wn (WSs.assignP (fun _ _ _ => rfl) PL (by kernel_rfl) ?_)
      refine Wn ?_
      exact hKL _ _ (0) (by omega) (iA4 k3 (by walk_at "lk") (by walk_at "lk") (by walk_at "lk") (.inr (iEAA _ m3 ⟨up1, sm2, hd1, top_link trN ln1⟩ (Eq.trans (b := some (MV.bool (t1.name != ("" : Str)))) (by walk_at "lk") (by rw [nb])))))
    · have nn : ¬ t1.name = "" := fun e => by
       refine eEA tr1.root fun t2 e1 e2 => ?_
       exact k0 (nodup_at m2.tn hk1 e1 (by rw [e, e2]))
      have nb : (t1.name != ("" : Str)) = true := bne_iff_ne.mpr nn
      refine eEEEEAAAA (tr1.up k1 t1 hk1 (Nat.pos_of_ne_zero k0)) fun k5 u j2 y2 lt2 hu hab hj2 hy2 => ?_
      have hy2r : y2.ready = false := by rw [lk1 k1 t1 k5 u j2 y2 hk1 (Nat.lt_irrefl _) hab hu hj2 hy2, har]
      have huN : (tm1.set k1 { t1 with past := t1.past, l := t1.l.set j1 (woken t1.past y1) })[k5]? = some u := by rw [List.getElem?_set_ne (Nat.ne_of_gt lt2)]; exact hu
      refine WE.none (WC.isNN ?_)
      refine Wl (by kernel_rfl) ?_
      refine WSs.thenP (PT.plain (fun _ _ => rfl) PL) rfl ?_
      refine Wc (WS.expr (fun _ _ _ => rfl) (WE.mp (PE.sub PL PL (PI.sdict (fun _ _ => rfl) ‹_› ‹_›)) ‹_› ms_Wheel_wake (Po PL PN) ?_))
      refine Wf (wake_c hw2 hj1 fun σ3 h3 o3 => ?_)
      obtain ⟨m3, k3⟩ := fin σ3 h3 o3
      refine Wc (WS.assign (fun _ _ _ => rfl) (WE.and (WE.lo ?_)))
      refine Wb (if_tt (WE.and1 ?_))
      refine PE.use (PE.cmp1 rfl PL PE.str PC.neS) ?_
      refine Wl (by kernel_rfl) ?_
      refine Wn (WSs.assignP (fun _ _ _ => rfl) PL (by kernel_rfl) ?_)
      refine Wn ?_
      have hin : y2.name ∈ tm.map (·.name) := by rw [<- sm1.names, hy2]; exact Mn (iEA t1 hmt rfl)
      refine hKL _ _ (k5 + 1) (by omega) (iA4 k3 (by walk_at "lk") (by walk_at "lk") (by walk_at "lk") (.inl (iE5 k5 _ u j2 y2 (iA11 rfl m3 sm2 (fun k3 t3 k4 t4 i z a1 a2 => ln1 k3 t3 k4 t4 i z a1 (fun w => a2 (by rw [w]; exact lt2))) huN hj2 hy2r (Upd.trans woken_idem up1 (Upd.set huN hj2)) (hd1.trans (Hands.team huN hj2 hin)) ?_ (by rw [hy2]; walk_at "lk") (Eq.trans (b := some (MV.bool (t1.name != ("" : Str)))) (by walk_at "lk") (by rw [nb]))))))
      refine link_set ln1 trN an m3.tn huN hj2 (m3.whl u (Mg huN)).nn woken_nm (fun k3 n3 => ⟨n3, ?_⟩) fun k3 t3 h3 e3 _ _ => ?_
      · by_cases q : k3 = k1
        · exact .inr (iEA ({ t1 with past := t1.past, l := t1.l.set j1 (woken t1.past y1) }) (by rw [q]; exact hkN) hy2.symm)
        · exact .inl q
      · have e4 := nodup_at m3.tn h3 hkN (by rw [e3, hy2])
        subst e4
        have : t3 = _ := Oi (h3.symm.trans hkN)
        rw [woken_ready, this]; exact arN.symm
   | true =>
    obtain ⟨z, hz'⟩ := Option.isSome_iff_exists.mp (pick_some (l := t1.l) (f := Option.none) (.inl har))
    rw [hz']
    simp only [whoV]
    refine WE.none (WC.isNS ?_)
    refine Wl (by kernel_rfl) ?_
    refine WSs.thenP (PT.plain (fun _ _ => rfl) PL) rfl ?_
    refine Wc (WS.expr (fun _ _ _ => rfl) (WE.mp (PE.sub PL PL (PI.sdict (fun _ _ => rfl) ‹_› ‹_›)) ‹_› ms_Wheel_wake (Po PL PN) ?_))
    refine Wf (wake_c hw2 hj1 fun σ3 h3 o3 => ?_)
    obtain ⟨m3, k3⟩ := fin σ3 h3 o3
    refine Wc (WS.assign (fun _ _ _ => rfl) (WE.and (WE.lo ?_)))
    refine Wb (if_ff (Wl (by kernel_rfl) ?_))
    refine Wn (WSs.assignP (fun _ _ _ => rfl) PL (by kernel_rfl) ?_)
    refine Wn (hKL _ _ (0) (by omega) (iA4 k3 (by walk_at "lk") (by walk_at "lk") (by walk_at "lk") (.inr (iEAA _ m3 ⟨up1, sm2, hd1, ?_⟩ (by walk_at "lk")))))
    by_cases k0 : k1 = 0
    · subst k0
      exact top_link trN ln1
    · refine eEEEEAAAA (tr1.up k1 t1 hk1 (Nat.pos_of_ne_zero k0)) fun k5 u j2 y2 lt2 hu hab hj2 hy2 => ?_
      have hy2r : y2.ready = true := by rw [lk1 k1 t1 k5 u j2 y2 hk1 (Nat.lt_irrefl _) hab hu hj2 hy2, har]
      have huN : (tm1.set k1 { t1 with past := t1.past, l := t1.l.set j1 (woken t1.past y1) })[k5]? = some u := by rw [List.getElem?_set_ne (Nat.ne_of_gt lt2)]; exact hu
      exact full_link trN an m3.tn huN hj2 (m3.whl u (Mg huN)).nn hkN hy2 (by rw [hy2r]; exact arN.symm) ln1
 · skip
   refine PT.use (PT.plain (fun _ _ => rfl) PL) ?_
   refine if_ff (Wn ?_)
   exact hq tm1 σ' m1 ch kp
theorem stirDown_c {B dm k j : Nat} {tm : List Team} {ab : List (Str × Str)} {R : List Row5} {ts : List Nat} {t : Team} {x : Shr} (m : MirD σ dm tm) (tr : Tree tm ab) (lk : Link tm ab fun _ => False) (an : (ab.map (·.1)).Nodup) (hR : Rows5 σ B R ts) (hz : R.length <= 26) (av : Abv ab R) (hk : tm[k]? = some t) (hj : t.l[j]? = some x) (hn : x.name ∉ tm.map (·.name)) (hx : x.ready = true) (hzl : ∀ u ∈ tm, u.l.length <= 1000000)
 (hq : ∀ tm' σ', MirD σ' dm tm' -> Chg rested x.name false tm tm' ab -> KpT (tm.map (·.g)) σ σ' -> Q .none σ') : WFn (cx w mean mg mb) ⟨n + 4, true, sc⟩ a_law_stirred [.ref B, .ref dm, .str x.name, .bool false] ρ Q X σ := by
 have hwt := m.whl t (Mg hk)
 refine WFn.fn4 (p1 := "_law_rows") (p2 := "_law_wheels") (p3 := "_law_name") (p4 := "_law_up") (FnAt.of4 (rfl : (Mine.hd.heap_39 w.params).lookup a_law_stirred = _) (by kernel_rfl) (fun _ _ _ _ => rfl) (by kernel_rfl)) ?_
 refine WSs.assignP (fun _ _ _ => rfl) PE.bool (by kernel_rfl) ?_
 refine Wc ?_
 refine WS.whileO (fun kk ρ' σ' => KpT (tm.map (·.g)) σ σ' /\ ρ' "_law_rows" = some (.ref B) /\ ρ' "_law_wheels" = some (.ref dm) /\ ρ' "_law_up" = some (.bool false) /\
  ((∃ k1 tm1 t1 j1 y1, kk = k1 + 1 /\ MirD σ' dm tm1 /\ Same tm tm1 /\ Link tm1 ab (fun i => k1 < i) /\ tm1[k1]? = some t1 /\ t1.l[j1]? = some y1 /\ y1.ready = true /\
    Upd rested tm (tm1.set k1 { t1 with past := t1.past, l := t1.l.set j1 { y1 with ready := false } }) /\ Hands (tm.map (·.name)) (fun n b => if n = x.name then false else b) tm (tm1.set k1 { t1 with past := t1.past, l := t1.l.set j1 { y1 with ready := false } }) /\ Link (tm1.set k1 { t1 with past := t1.past, l := t1.l.set j1 { y1 with ready := false } }) ab (· = k1) /\ ρ' "_law_name" = some (.str y1.name) /\ ρ' "_law_going" = some (.bool true)) ∨
   ∃ tm1, MirD σ' dm tm1 /\ Chg rested x.name false tm tm1 ab /\ ρ' "_law_going" = some (.bool false))) (k + 1) (iA4 (fun a t o q _ => q) (by walk_at "lk") (by walk_at "lk") (by walk_at "lk") (.inl (iE5 k tm t j x (iA11 rfl m (Same.refl _) (fun k3 t3 k4 t4 i z h1 _ => lk k3 t3 k4 t4 i z h1 (fun q => q)) hk hj hx (Upd.set hk hj) ?_ ?_ (by walk_at "lk") (by walk_at "lk"))))) ?_
 · exact Hands.set (N := tm.map (·.name)) tr an m.tn hk hj hwt.nn (y := { x with ready := false }) rfl (p := t.past)
 · exact link_set lk tr an m.tn hk hj hwt.nn (y := { x with ready := false }) rfl (fun k3 n3 => ⟨n3, .inl fun q => q⟩) fun k3 t3 h3 e3 _ _ => absurd (Mn (iEA t3 (Mg h3) e3)) hn
 clear hwt
 rintro kk ρ' σ' ⟨kp, r0, r1, r2, hor⟩
 intro KL hKL hKB hKR
 rcases hor with ⟨k1, tm1, t1, j1, y1, rfl, m1, sm1, lk1, hk1, hj1, hy1, up1, hd1, ln1, r3, r4⟩ | ⟨tm1, m1, ch, r4⟩
 · have hmt := Mg hk1
   have tr1 := tr.same sm1
   have hRR := hR.keep (σ' := σ') (fun q => kp _ _ _ q (fun w => by refine eEA (Mm w) fun v hv e => ?_; have := m.gg v hv; omega)) (fun q => kp _ _ _ q (fun w => by refine eEA (Mm w) fun v hv e => ?_; have := m.gg v hv; omega))
   refine eEEAA (av.up _ _ (tr1.mem k1 t1 j1 y1 hk1 hj1)) fun ri r hri hrn hru => ?_
   have hgt := getK_mir m1 hmt
   have hd := m1.dic
   have hw1 := m1.whl t1 hmt
   have hW : σ' t1.W = some (t1.g, .inst a_Wheel [("past", .int t1.past), ("sharers", .ref t1.d)]) := hw1.whl
   have hgg := m1.gg t1 hmt
   have hgs := gs_mem sm1 hk1
   have hl1 : t1.l.length <= 1000000 := by
    refine eEAA (sm1.back hk1) fun t2 h2 _ l2 => ?_
    have ll := congrArg List.length l2
    rw [List.length_map, List.length_map] at ll
    rw [ll]; exact hzl t2 (Mg h2)
   have har : anyR t1.l = true := anyR_mem hj1 hy1
   obtain ⟨z0, hz0⟩ := Option.isSome_iff_exists.mp (pick_some (l := t1.l) (f := Option.none) (.inl har))
   refine PT.use (PT.plain (fun _ _ => rfl) PL) ?_
   refine if_tt (Wc (WS.assign (fun _ _ _ => rfl) (WE.cp g_law_above fn_law_above (Po PL (Po PL PN)) ?_)))
   rw [<- hrn]
   refine Wf (above_c hRR hz hri (fun i q a1 a2 => av.uq _ _ _ _ a1 hri a2) ?_)
   rw [hru]
   refine Wl (by kernel_rfl) ?_
   refine Wc (WS.assign (fun _ _ _ => rfl) (WE.cmp1 rfl (WE.mp (PE.sub PL PL (PI.sdict (fun _ _ => rfl) ‹_› ‹_›)) ‹_› ms_Wheel_whose PN ?_)))
   refine Wf (whose_c hw1 hl1 fun b hb => ?_)
   have m2 := m1.one (t' := t1) hk1 rfl rfl rfl (hw1.keep (σ' := σ'.put b t1.g (.list ((ents t1.l).map fun p => .str p.1))) (Kpt.new hb.none)) (Oth.refl.new hb.none)
   rw [set_same hk1] at m2
   have k2 : KpT (tm.map (·.g)) σ (σ'.put b t1.g (.list ((ents t1.l).map fun p => .str p.1))) := fun a t o q w => Hp.new hb.none (kp _ _ _ q w)
   generalize σ'.put b t1.g (.list ((ents t1.l).map fun p => .str p.1)) = σ2 at m2 k2 ⊢
   clear hb hW hw1 hd m1
   rw [hz0]
   simp only [whoV]
   have hd := m2.dic
   have hw2 := m2.whl t1 hmt
   have hW : σ2 t1.W = some (t1.g, .inst a_Wheel [("past", .int t1.past), ("sharers", .ref t1.d)]) := hw2.whl
   have sm2 : Same tm (tm1.set k1 { t1 with past := t1.past, l := t1.l.set j1 { y1 with ready := false } }) := sm1.trans (Same.set hk1 (iA4 rfl rfl rfl rfl (set_nsh (y := { y1 with ready := false }) hj1 rfl rfl)))
   have hkN : (tm1.set k1 { t1 with past := t1.past, l := t1.l.set j1 { y1 with ready := false } })[k1]? = some { t1 with past := t1.past, l := t1.l.set j1 { y1 with ready := false } } := List.getElem?_set_self (Gs hk1).1
   have trN := tr.same sm2
   refine WE.none (WC.isNS ?_)
   refine Wl (by kernel_rfl) ?_
   refine WSs.elseP (PT.plain (fun _ _ => rfl) PL) rfl ?_
   refine Wc (WS.expr (fun _ _ _ => rfl) (WE.mp (PE.sub PL PL (PI.sdict (fun _ _ => rfl) ‹_› ‹_›)) ‹_› ms_Wheel_rest (Po PL PN) ?_))
   refine Wf (rest_c hw2 hj1 fun σ3 h3 o3 => ?_)
   have m3 := m2.one (t' := { t1 with past := t1.past, l := t1.l.set j1 { y1 with ready := false } }) hk1 rfl rfl rfl h3 o3
   have k3 : KpT (tm.map (·.g)) σ σ3 := fun a t o q w => o3.at (k2 _ _ _ q w) fun e => w (e ▸ hgs)
   clear hW hw2 hd m2 k2 h3 o3
   have hmN := Mg hkN
   have hgN : getK (tents (tm1.set k1 { t1 with past := t1.past, l := t1.l.set j1 { y1 with ready := false } })) t1.name = some (.ref t1.W) := getK_mir (t := { t1 with past := t1.past, l := t1.l.set j1 { y1 with ready := false } }) m3 hmN
   have hwN := m3.whl _ hmN
   generalize htN : tm1.set k1 { t1 with past := t1.past, l := t1.l.set j1 { y1 with ready := false } } = tmN at *
   have hd := m3.dic
   have hW : σ3 t1.W = some (t1.g, .inst a_Wheel [("past", .int t1.past), ("sharers", .ref t1.d)]) := hwN.whl
   have hlN : (t1.l.set j1 { y1 with ready := false }).length <= 1000000 := by rw [List.length_set]; exact hl1
   refine Wc (WS.assign (fun _ _ _ => rfl) (WE.and (WE.cmp1 rfl (WE.mp (PE.sub PL PL (PI.sdict (fun _ _ => rfl) ‹_› ‹_›)) ‹_› ms_Wheel_whose PN ?_))))
   refine Wf (whose_c hwN hlN fun b hb => ?_)
   have m4 := m3.one (t' := { t1 with past := t1.past, l := t1.l.set j1 { y1 with ready := false } }) hkN rfl rfl rfl (hwN.keep (σ' := σ3.put b t1.g (.list ((ents (t1.l.set j1 { y1 with ready := false })).map fun p => .str p.1))) (Kpt.new hb.none)) (Oth.refl.new hb.none)
   rw [set_same hkN] at m4
   have k4 : KpT (tm.map (·.g)) σ (σ3.put b t1.g (.list ((ents (t1.l.set j1 { y1 with ready := false })).map fun p => .str p.1))) := fun a t o q w => Hp.new hb.none (k3 _ _ _ q w)
   generalize σ3.put b t1.g (.list ((ents (t1.l.set j1 { y1 with ready := false })).map fun p => .str p.1)) = σ4 at m4 k4 ⊢
   clear hb hW hwN hd m3 k3
   have par : k1 ≠ 0 -> ∃ (k5 : Nat) (u : Team) (j2 : Nat) (y2 : Shr), k5 < k1 /\ tmN[k5]? = some u /\ u.l[j2]? = some y2 /\ y2.name = t1.name /\ y2.ready = true := fun k0 => by
    refine eEEEEAAAA (tr1.up k1 t1 hk1 (Nat.pos_of_ne_zero k0)) fun k5 u j2 y2 lt2 hu hab hj2 hy2 => ?_
    refine (iEEEEAAAA k5 u j2 y2 lt2 (by rw [<- htN, List.getElem?_set_ne (Nat.ne_of_gt lt2)]; exact hu) hj2 hy2 ?_)
    rw [lk1 k1 t1 k5 u j2 y2 hk1 (Nat.lt_irrefl _) hab hu hj2 hy2, har]
   cases arN : anyR (t1.l.set j1 { y1 with ready := false }) with
   | true =>
    obtain ⟨z1, hz1⟩ := Option.isSome_iff_exists.mp (pick_some (l := t1.l.set j1 { y1 with ready := false }) (f := Option.none) (.inl arN))
    rw [hz1]
    simp only [whoV]
    refine WE.none (WC.isNS ?_)
    refine Wb (if_ff (Wl (by kernel_rfl) ?_))
    refine Wn (WSs.assignP (fun _ _ _ => rfl) PL (by kernel_rfl) ?_)
    refine Wn (hKL _ _ (0) (by omega) (iA4 k4 (by walk_at "lk") (by walk_at "lk") (by walk_at "lk") (.inr (iEAA _ m4 ⟨up1, sm2, hd1, ?_⟩ (by walk_at "lk")))))
    by_cases k0 : k1 = 0
    · subst k0
      exact top_link trN ln1
    · refine eEEEEAAAA (par k0) fun k5 u j2 y2 lt2 huN hj2 hy2 hy2r => ?_
      exact full_link trN an m4.tn huN hj2 (m4.whl u (Mg huN)).nn hkN hy2 (by rw [hy2r]; exact arN.symm) ln1
   | false =>
    rw [pick_no arN]
    simp only [whoV]
    by_cases k0 : k1 = 0
    · subst k0
      refine eEA tr1.root fun t2 e1 e2 => ?_
      have : t1 = t2 := Oi (hk1.symm.trans e1)
      subst this
      have nb : (t1.name != ("" : Str)) = false := by rw [e2]; rfl
      refine WE.none (WC.isNN ?_)
      refine Wb (if_tt (WE.and1 ?_))
      refine PE.use (PE.cmp1 rfl PL PE.str PC.neS) ?_
      refine Wl (by kernel_rfl) ?_
      refine Wn (WSs.assignP (fun _ _ _ => rfl) PL (by kernel_rfl) ?_)
      refine Wn ?_
      exact hKL _ _ (0) (by omega) (iA4 k4 (by walk_at "lk") (by walk_at "lk") (by walk_at "lk") (.inr (iEAA _ m4 ⟨up1, sm2, hd1, top_link trN ln1⟩ (Eq.trans (b := some (MV.bool (t1.name != ("" : Str)))) (by walk_at "lk") (by rw [nb])))))
    · have nn : ¬ t1.name = "" := fun e => by
       refine eEA trN.root fun t2 e1 e2 => ?_
       exact k0 (nodup_at m4.tn hkN e1 (by rw [e2]; exact e))
      have nb : (t1.name != ("" : Str)) = true := bne_iff_ne.mpr nn
      refine eEEEEAAAA (par k0) fun k5 u j2 y2 lt2 huN hj2 hy2 hy2r => ?_
      have hin : y2.name ∈ tm.map (·.name) := by rw [<- sm1.names, hy2]; exact Mn (iEA t1 hmt rfl)
      refine WE.none (WC.isNN ?_)
      refine Wb (if_tt (WE.and1 ?_))
      refine PE.use (PE.cmp1 rfl PL PE.str PC.neS) ?_
      refine Wl (by kernel_rfl) ?_
      refine Wn (WSs.assignP (fun _ _ _ => rfl) PL (by kernel_rfl) ?_)
      refine Wn ?_
      refine hKL _ _ (k5 + 1) (by omega) (iA4 k4 (by walk_at "lk") (by walk_at "lk") (by walk_at "lk") (.inl (iE5 k5 tmN u j2 y2 (iA11 rfl m4 sm2 (fun k3 t3 k4 t4 i z a1 a2 => ln1 k3 t3 k4 t4 i z a1 (fun w => a2 (by rw [w]; exact lt2))) huN hj2 hy2r (Upd.trans (g := rested) (fun _ _ => rfl) up1 (Upd.set huN hj2)) (hd1.trans (Hands.team huN hj2 hin)) ?_ (by rw [hy2]; walk_at "lk") (Eq.trans (b := some (MV.bool (t1.name != ("" : Str)))) (by walk_at "lk") (by rw [nb]))))))
      refine link_set ln1 trN an m4.tn huN hj2 (m4.whl u (Mg huN)).nn (y := { y2 with ready := false }) rfl (fun k3 n3 => ⟨n3, ?_⟩) fun k3 t3 h3 e3 _ _ => ?_
      · by_cases q : k3 = k1
        · exact .inr (iEA ({ t1 with past := t1.past, l := t1.l.set j1 { y1 with ready := false } }) (by rw [q]; exact hkN) hy2.symm)
        · exact .inl q
      · have e4 := nodup_at m4.tn h3 hkN (by rw [e3, hy2])
        subst e4
        have : t3 = _ := Oi (h3.symm.trans hkN)
        rw [this]; exact arN.symm
 · skip
   refine PT.use (PT.plain (fun _ _ => rfl) PL) ?_
   refine if_ff (Wn ?_)
   exact hq tm1 σ' m1 ch kp
theorem times {m : Nat} {hn : Bool} {sc' : Scope} {s C nE : Str} {a E t EC : Nat} {b : Bool} {k : Nat} {p1 p2 p3 p4 p5 p6 p7 p8 p9 : Pos} (li : sc'.names.lookup ("int" : Str) = some .globalImplicit) (ls : sc'.names.lookup ("isinstance" : Str) = some .globalImplicit) (le : sc'.names.lookup nE = some .local) (ld : (nE == ("__debug__" : Str)) = false) (lc : sc'.names.lookup C = some .globalImplicit) (gc : (cx w mean mg mb).glob C = some (.ref a)) (he : ρ nE = some (.ref E)) (hE : σ E = some (t, .exc EC)) (ok : ExcOk (cx w mean mg mb).K EC) (hk : kitOne (cx w mean mg mb).K (.ref EC) (.ref a) = some b)
 (hq : ∀ B σ', Extd σ σ' -> σ' B = some (9, .list ((if b then [s] else []).map .str)) -> Q (.ref B) σ') : WE (cx w mean mg mb) ⟨m, hn, sc'⟩ (.BinOp (.List [.Constant (.str s) k p1] p2) .Mult (.Call (.Name "int" p3) [.Call (.Name "isinstance" p4) [.Name nE p5, .Name C p6] [] p7] [] p8) p9) ρ Q X σ := by
 refine WE.binop (WE.list 9 ?_)
 refine WEs.cons rfl (WE.str (WEs.nil (⟨by simp, fun L hL => ?_⟩)))
 refine WE.call rfl rfl (WE.global li g_int ?_)
 refine And.intro (Callee.con rfl) (WEs.cons rfl (WE.call rfl rfl (WE.global ls g_isinstance ?_)))
 refine And.intro (Callee.con rfl) (WEs.cons rfl (WE.local le ld he ?_))
 refine WEs.cons rfl (WE.global lc gc ?_)
 refine WEs.nil (WCall.isExc (b := b) (Hp.new hL.none hE) ok isRef hk ?_)
 refine WEs.nil (WCall.intB ?_)
 refine WB.mulL 9 Hp.self (by cases b <;> decide) (by cases b <;> decide) (by simp) fun B hB => ?_
 refine hq B _ (fun x p q => Hp.new hB.none (Hp.new hL.none q)) ?_
 have : (List.replicate (if b = true then (1 : Int) else 0).toNat [MV.str s]).flatten = (if b then [s] else []).map .str := by cases b <;> rfl
 rw [<- this]
 exact Hp.self
theorem ifLe (b : Bool) (s : Str) : (if b = true then [s] else []).length <= 1 := by cases b <;> simp
theorem addLe {a b : List Str} {m k : Nat} (h : a.length <= m) (h' : b.length <= k) : (a ++ b).length <= m + k := by rw [List.length_append]; exact Nat.add_le_add h h'
def refL (b1 b2 b3 b4 b5 b6 b7 b8 b9 : Bool) : List Str := (((((((((if b1 then [("not a hand" : Str)] else []) ++ (if b2 then [("no name" : Str)] else [])) ++ (if b3 then [("not empty" : Str)] else [])) ++ (if b4 then [("twice" : Str)] else [])) ++ (if b5 then [("no team" : Str)] else [])) ++ (if b6 then [("bad share" : Str)] else [])) ++ (if b7 then [("bad name" : Str)] else [])) ++ (if b8 then [("count" : Str)] else [])) ++ (if b9 then [("deed" : Str)] else [])) ++ []
theorem refusal_c {hn : Bool} {E t EC : Nat} {b1 b2 b3 b4 b5 b6 b7 b8 b9 : Bool} (hE : σ E = some (t, .exc EC)) (ok : ExcOk (cx w mean mg mb).K EC) (k1 : kitOne (cx w mean mg mb).K (.ref EC) (.ref a_NotHand) = some b1) (k2 : kitOne (cx w mean mg mb).K (.ref EC) (.ref a_NoName) = some b2) (k3 : kitOne (cx w mean mg mb).K (.ref EC) (.ref a_NotEmpty) = some b3) (k4 : kitOne (cx w mean mg mb).K (.ref EC) (.ref a_Twice) = some b4) (k5 : kitOne (cx w mean mg mb).K (.ref EC) (.ref a_NoTeam) = some b5) (k6 : kitOne (cx w mean mg mb).K (.ref EC) (.ref a_BadShare) = some b6) (k7 : kitOne (cx w mean mg mb).K (.ref EC) (.ref a_BadName) = some b7) (k8 : kitOne (cx w mean mg mb).K (.ref EC) (.ref a_BadCount) = some b8) (k9 : kitOne (cx w mean mg mb).K (.ref EC) (.ref a_NoDeed) = some b9) (k10 : kitOne (cx w mean mg mb).K (.ref EC) (.type "ValueError") = some true)
 (hq : ∀ σ', Extd σ σ' -> Q (.str (Txt.join "/" (refL b1 b2 b3 b4 b5 b6 b7 b8 b9))) σ') : WFn (cx w mean mg mb) ⟨n + 1, hn, sc⟩ a_law_refusal [.ref E] ρ Q X σ := by
 refine WFn.fn1 (p1 := "_law_error") (FnAt.of1 (rfl : (Mine.hd.heap_39 w.params).lookup a_law_refusal = _) (by kernel_rfl) (fun _ => rfl) (by kernel_rfl)) ?_
 refine Wc (WS.assign (fun _ _ _ => rfl) (WE.binop (times (by kernel_rfl) (by kernel_rfl) (by kernel_rfl) (by kernel_rfl) (by kernel_rfl) g_NotHand (by walk_at "lk") hE ok k1 fun B1 σ1 e1 h1 => ?_)))
 have hE1 := e1 _ _ hE
 refine times (by kernel_rfl) (by kernel_rfl) (by kernel_rfl) (by kernel_rfl) (by kernel_rfl) g_NoName (by walk_at "lk") hE1 ok k2 fun B2 σ2 e2 h2 => ?_
 refine WB.addL 9 (ListAt.own (e2 _ _ h1)) (ListAt.own h2) (by rw [List.length_map, List.length_map]; exact Nat.le_trans (Nat.add_le_add (ifLe _ _) (ifLe _ _)) (by decide)) fun F2 hF2 => ?_
 rw [<- List.map_append]
 have x2 : Extd σ (σ2.put F2 9 (.list (((if b1 then [("not a hand" : Str)] else []) ++ (if b2 then [("no name" : Str)] else [])).map .str))) := fun a p q => Hp.new hF2.none (e2 _ _ (e1 _ _ q))
 have f2 : (σ2.put F2 9 (.list (((if b1 then [("not a hand" : Str)] else []) ++ (if b2 then [("no name" : Str)] else [])).map .str))) F2 = some (9, .list (((if b1 then [("not a hand" : Str)] else []) ++ (if b2 then [("no name" : Str)] else [])).map .str)) := Hp.self
 have n2 : ((if b1 then [("not a hand" : Str)] else []) ++ (if b2 then [("no name" : Str)] else [])).length <= 2 := addLe (ifLe _ _) (ifLe _ _)
 generalize σ2.put F2 9 (.list (((if b1 then [("not a hand" : Str)] else []) ++ (if b2 then [("no name" : Str)] else [])).map .str)) = τ2 at x2 f2 ⊢
 refine Wl (by kernel_rfl) ?_
 refine Wc (WS.assign (fun _ _ _ => rfl) (WE.binop (WE.binop (WE.lo ?_))))
 have E3 := x2 _ _ hE
 refine times (by kernel_rfl) (by kernel_rfl) (by kernel_rfl) (by kernel_rfl) (by kernel_rfl) g_NotEmpty (by walk_at "lk") E3 ok k3 fun B3 σ3 e3 h3 => ?_
 refine WB.addL 9 (ListAt.own (e3 _ _ f2)) (ListAt.own h3) (by rw [List.length_map, List.length_map]; exact Nat.le_trans (Nat.add_le_add n2 (ifLe _ _)) (by decide)) fun F3 hF3 => ?_
 rw [<- List.map_append]
 have x3 : Extd σ (σ3.put F3 9 (.list ((((if b1 then [("not a hand" : Str)] else []) ++ (if b2 then [("no name" : Str)] else [])) ++ (if b3 then [("not empty" : Str)] else [])).map .str))) := fun a p q => Hp.new hF3.none (e3 _ _ (x2 _ _ q))
 have f3 : (σ3.put F3 9 (.list ((((if b1 then [("not a hand" : Str)] else []) ++ (if b2 then [("no name" : Str)] else [])) ++ (if b3 then [("not empty" : Str)] else [])).map .str))) F3 = some (9, .list ((((if b1 then [("not a hand" : Str)] else []) ++ (if b2 then [("no name" : Str)] else [])) ++ (if b3 then [("not empty" : Str)] else [])).map .str)) := Hp.self
 have n3 : (((if b1 then [("not a hand" : Str)] else []) ++ (if b2 then [("no name" : Str)] else [])) ++ (if b3 then [("not empty" : Str)] else [])).length <= 3 := addLe n2 (ifLe _ _)
 generalize σ3.put F3 9 (.list ((((if b1 then [("not a hand" : Str)] else []) ++ (if b2 then [("no name" : Str)] else [])) ++ (if b3 then [("not empty" : Str)] else [])).map .str)) = τ3 at x3 f3 ⊢
 have E4 := x3 _ _ hE
 refine times (by kernel_rfl) (by kernel_rfl) (by kernel_rfl) (by kernel_rfl) (by kernel_rfl) g_Twice (by walk_at "lk") E4 ok k4 fun B4 σ4 e4 h4 => ?_
 refine WB.addL 9 (ListAt.own (e4 _ _ f3)) (ListAt.own h4) (by rw [List.length_map, List.length_map]; exact Nat.le_trans (Nat.add_le_add n3 (ifLe _ _)) (by decide)) fun F4 hF4 => ?_
 rw [<- List.map_append]
 have x4 : Extd σ (σ4.put F4 9 (.list (((((if b1 then [("not a hand" : Str)] else []) ++ (if b2 then [("no name" : Str)] else [])) ++ (if b3 then [("not empty" : Str)] else [])) ++ (if b4 then [("twice" : Str)] else [])).map .str))) := fun a p q => Hp.new hF4.none (e4 _ _ (x3 _ _ q))
 have f4 : (σ4.put F4 9 (.list (((((if b1 then [("not a hand" : Str)] else []) ++ (if b2 then [("no name" : Str)] else [])) ++ (if b3 then [("not empty" : Str)] else [])) ++ (if b4 then [("twice" : Str)] else [])).map .str))) F4 = some (9, .list (((((if b1 then [("not a hand" : Str)] else []) ++ (if b2 then [("no name" : Str)] else [])) ++ (if b3 then [("not empty" : Str)] else [])) ++ (if b4 then [("twice" : Str)] else [])).map .str)) := Hp.self
 have n4 : ((((if b1 then [("not a hand" : Str)] else []) ++ (if b2 then [("no name" : Str)] else [])) ++ (if b3 then [("not empty" : Str)] else [])) ++ (if b4 then [("twice" : Str)] else [])).length <= 4 := addLe n3 (ifLe _ _)
 generalize σ4.put F4 9 (.list (((((if b1 then [("not a hand" : Str)] else []) ++ (if b2 then [("no name" : Str)] else [])) ++ (if b3 then [("not empty" : Str)] else [])) ++ (if b4 then [("twice" : Str)] else [])).map .str)) = τ4 at x4 f4 ⊢
 refine Wl (by kernel_rfl) ?_
 refine Wc (WS.assign (fun _ _ _ => rfl) (WE.binop (WE.binop (WE.lo ?_))))
 have E5 := x4 _ _ hE
 refine times (by kernel_rfl) (by kernel_rfl) (by kernel_rfl) (by kernel_rfl) (by kernel_rfl) g_NoTeam (by walk_at "lk") E5 ok k5 fun B5 σ5 e5 h5 => ?_
 refine WB.addL 9 (ListAt.own (e5 _ _ f4)) (ListAt.own h5) (by rw [List.length_map, List.length_map]; exact Nat.le_trans (Nat.add_le_add n4 (ifLe _ _)) (by decide)) fun F5 hF5 => ?_
 rw [<- List.map_append]
 have x5 : Extd σ (σ5.put F5 9 (.list ((((((if b1 then [("not a hand" : Str)] else []) ++ (if b2 then [("no name" : Str)] else [])) ++ (if b3 then [("not empty" : Str)] else [])) ++ (if b4 then [("twice" : Str)] else [])) ++ (if b5 then [("no team" : Str)] else [])).map .str))) := fun a p q => Hp.new hF5.none (e5 _ _ (x4 _ _ q))
 have f5 : (σ5.put F5 9 (.list ((((((if b1 then [("not a hand" : Str)] else []) ++ (if b2 then [("no name" : Str)] else [])) ++ (if b3 then [("not empty" : Str)] else [])) ++ (if b4 then [("twice" : Str)] else [])) ++ (if b5 then [("no team" : Str)] else [])).map .str))) F5 = some (9, .list ((((((if b1 then [("not a hand" : Str)] else []) ++ (if b2 then [("no name" : Str)] else [])) ++ (if b3 then [("not empty" : Str)] else [])) ++ (if b4 then [("twice" : Str)] else [])) ++ (if b5 then [("no team" : Str)] else [])).map .str)) := Hp.self
 have n5 : (((((if b1 then [("not a hand" : Str)] else []) ++ (if b2 then [("no name" : Str)] else [])) ++ (if b3 then [("not empty" : Str)] else [])) ++ (if b4 then [("twice" : Str)] else [])) ++ (if b5 then [("no team" : Str)] else [])).length <= 5 := addLe n4 (ifLe _ _)
 generalize σ5.put F5 9 (.list ((((((if b1 then [("not a hand" : Str)] else []) ++ (if b2 then [("no name" : Str)] else [])) ++ (if b3 then [("not empty" : Str)] else [])) ++ (if b4 then [("twice" : Str)] else [])) ++ (if b5 then [("no team" : Str)] else [])).map .str)) = τ5 at x5 f5 ⊢
 have E6 := x5 _ _ hE
 refine times (by kernel_rfl) (by kernel_rfl) (by kernel_rfl) (by kernel_rfl) (by kernel_rfl) g_BadShare (by walk_at "lk") E6 ok k6 fun B6 σ6 e6 h6 => ?_
 refine WB.addL 9 (ListAt.own (e6 _ _ f5)) (ListAt.own h6) (by rw [List.length_map, List.length_map]; exact Nat.le_trans (Nat.add_le_add n5 (ifLe _ _)) (by decide)) fun F6 hF6 => ?_
 rw [<- List.map_append]
 have x6 : Extd σ (σ6.put F6 9 (.list (((((((if b1 then [("not a hand" : Str)] else []) ++ (if b2 then [("no name" : Str)] else [])) ++ (if b3 then [("not empty" : Str)] else [])) ++ (if b4 then [("twice" : Str)] else [])) ++ (if b5 then [("no team" : Str)] else [])) ++ (if b6 then [("bad share" : Str)] else [])).map .str))) := fun a p q => Hp.new hF6.none (e6 _ _ (x5 _ _ q))
 have f6 : (σ6.put F6 9 (.list (((((((if b1 then [("not a hand" : Str)] else []) ++ (if b2 then [("no name" : Str)] else [])) ++ (if b3 then [("not empty" : Str)] else [])) ++ (if b4 then [("twice" : Str)] else [])) ++ (if b5 then [("no team" : Str)] else [])) ++ (if b6 then [("bad share" : Str)] else [])).map .str))) F6 = some (9, .list (((((((if b1 then [("not a hand" : Str)] else []) ++ (if b2 then [("no name" : Str)] else [])) ++ (if b3 then [("not empty" : Str)] else [])) ++ (if b4 then [("twice" : Str)] else [])) ++ (if b5 then [("no team" : Str)] else [])) ++ (if b6 then [("bad share" : Str)] else [])).map .str)) := Hp.self
 have n6 : ((((((if b1 then [("not a hand" : Str)] else []) ++ (if b2 then [("no name" : Str)] else [])) ++ (if b3 then [("not empty" : Str)] else [])) ++ (if b4 then [("twice" : Str)] else [])) ++ (if b5 then [("no team" : Str)] else [])) ++ (if b6 then [("bad share" : Str)] else [])).length <= 6 := addLe n5 (ifLe _ _)
 generalize σ6.put F6 9 (.list (((((((if b1 then [("not a hand" : Str)] else []) ++ (if b2 then [("no name" : Str)] else [])) ++ (if b3 then [("not empty" : Str)] else [])) ++ (if b4 then [("twice" : Str)] else [])) ++ (if b5 then [("no team" : Str)] else [])) ++ (if b6 then [("bad share" : Str)] else [])).map .str)) = τ6 at x6 f6 ⊢
 refine Wl (by kernel_rfl) ?_
 refine Wc (WS.assign (fun _ _ _ => rfl) (WE.binop (WE.binop (WE.lo ?_))))
 have E7 := x6 _ _ hE
 refine times (by kernel_rfl) (by kernel_rfl) (by kernel_rfl) (by kernel_rfl) (by kernel_rfl) g_BadName (by walk_at "lk") E7 ok k7 fun B7 σ7 e7 h7 => ?_
 refine WB.addL 9 (ListAt.own (e7 _ _ f6)) (ListAt.own h7) (by rw [List.length_map, List.length_map]; exact Nat.le_trans (Nat.add_le_add n6 (ifLe _ _)) (by decide)) fun F7 hF7 => ?_
 rw [<- List.map_append]
 have x7 : Extd σ (σ7.put F7 9 (.list ((((((((if b1 then [("not a hand" : Str)] else []) ++ (if b2 then [("no name" : Str)] else [])) ++ (if b3 then [("not empty" : Str)] else [])) ++ (if b4 then [("twice" : Str)] else [])) ++ (if b5 then [("no team" : Str)] else [])) ++ (if b6 then [("bad share" : Str)] else [])) ++ (if b7 then [("bad name" : Str)] else [])).map .str))) := fun a p q => Hp.new hF7.none (e7 _ _ (x6 _ _ q))
 have f7 : (σ7.put F7 9 (.list ((((((((if b1 then [("not a hand" : Str)] else []) ++ (if b2 then [("no name" : Str)] else [])) ++ (if b3 then [("not empty" : Str)] else [])) ++ (if b4 then [("twice" : Str)] else [])) ++ (if b5 then [("no team" : Str)] else [])) ++ (if b6 then [("bad share" : Str)] else [])) ++ (if b7 then [("bad name" : Str)] else [])).map .str))) F7 = some (9, .list ((((((((if b1 then [("not a hand" : Str)] else []) ++ (if b2 then [("no name" : Str)] else [])) ++ (if b3 then [("not empty" : Str)] else [])) ++ (if b4 then [("twice" : Str)] else [])) ++ (if b5 then [("no team" : Str)] else [])) ++ (if b6 then [("bad share" : Str)] else [])) ++ (if b7 then [("bad name" : Str)] else [])).map .str)) := Hp.self
 have n7 : (((((((if b1 then [("not a hand" : Str)] else []) ++ (if b2 then [("no name" : Str)] else [])) ++ (if b3 then [("not empty" : Str)] else [])) ++ (if b4 then [("twice" : Str)] else [])) ++ (if b5 then [("no team" : Str)] else [])) ++ (if b6 then [("bad share" : Str)] else [])) ++ (if b7 then [("bad name" : Str)] else [])).length <= 7 := addLe n6 (ifLe _ _)
 generalize σ7.put F7 9 (.list ((((((((if b1 then [("not a hand" : Str)] else []) ++ (if b2 then [("no name" : Str)] else [])) ++ (if b3 then [("not empty" : Str)] else [])) ++ (if b4 then [("twice" : Str)] else [])) ++ (if b5 then [("no team" : Str)] else [])) ++ (if b6 then [("bad share" : Str)] else [])) ++ (if b7 then [("bad name" : Str)] else [])).map .str)) = τ7 at x7 f7 ⊢
 have E8 := x7 _ _ hE
 refine times (by kernel_rfl) (by kernel_rfl) (by kernel_rfl) (by kernel_rfl) (by kernel_rfl) g_BadCount (by walk_at "lk") E8 ok k8 fun B8 σ8 e8 h8 => ?_
 refine WB.addL 9 (ListAt.own (e8 _ _ f7)) (ListAt.own h8) (by rw [List.length_map, List.length_map]; exact Nat.le_trans (Nat.add_le_add n7 (ifLe _ _)) (by decide)) fun F8 hF8 => ?_
 rw [<- List.map_append]
 have x8 : Extd σ (σ8.put F8 9 (.list (((((((((if b1 then [("not a hand" : Str)] else []) ++ (if b2 then [("no name" : Str)] else [])) ++ (if b3 then [("not empty" : Str)] else [])) ++ (if b4 then [("twice" : Str)] else [])) ++ (if b5 then [("no team" : Str)] else [])) ++ (if b6 then [("bad share" : Str)] else [])) ++ (if b7 then [("bad name" : Str)] else [])) ++ (if b8 then [("count" : Str)] else [])).map .str))) := fun a p q => Hp.new hF8.none (e8 _ _ (x7 _ _ q))
 have f8 : (σ8.put F8 9 (.list (((((((((if b1 then [("not a hand" : Str)] else []) ++ (if b2 then [("no name" : Str)] else [])) ++ (if b3 then [("not empty" : Str)] else [])) ++ (if b4 then [("twice" : Str)] else [])) ++ (if b5 then [("no team" : Str)] else [])) ++ (if b6 then [("bad share" : Str)] else [])) ++ (if b7 then [("bad name" : Str)] else [])) ++ (if b8 then [("count" : Str)] else [])).map .str))) F8 = some (9, .list (((((((((if b1 then [("not a hand" : Str)] else []) ++ (if b2 then [("no name" : Str)] else [])) ++ (if b3 then [("not empty" : Str)] else [])) ++ (if b4 then [("twice" : Str)] else [])) ++ (if b5 then [("no team" : Str)] else [])) ++ (if b6 then [("bad share" : Str)] else [])) ++ (if b7 then [("bad name" : Str)] else [])) ++ (if b8 then [("count" : Str)] else [])).map .str)) := Hp.self
 have n8 : ((((((((if b1 then [("not a hand" : Str)] else []) ++ (if b2 then [("no name" : Str)] else [])) ++ (if b3 then [("not empty" : Str)] else [])) ++ (if b4 then [("twice" : Str)] else [])) ++ (if b5 then [("no team" : Str)] else [])) ++ (if b6 then [("bad share" : Str)] else [])) ++ (if b7 then [("bad name" : Str)] else [])) ++ (if b8 then [("count" : Str)] else [])).length <= 8 := addLe n7 (ifLe _ _)
 generalize σ8.put F8 9 (.list (((((((((if b1 then [("not a hand" : Str)] else []) ++ (if b2 then [("no name" : Str)] else [])) ++ (if b3 then [("not empty" : Str)] else [])) ++ (if b4 then [("twice" : Str)] else [])) ++ (if b5 then [("no team" : Str)] else [])) ++ (if b6 then [("bad share" : Str)] else [])) ++ (if b7 then [("bad name" : Str)] else [])) ++ (if b8 then [("count" : Str)] else [])).map .str)) = τ8 at x8 f8 ⊢
 refine Wl (by kernel_rfl) ?_
 refine Wc (WS.assign (fun _ _ _ => rfl) (WE.binop (WE.binop (WE.lo ?_))))
 have E9 := x8 _ _ hE
 refine times (by kernel_rfl) (by kernel_rfl) (by kernel_rfl) (by kernel_rfl) (by kernel_rfl) g_NoDeed (by walk_at "lk") E9 ok k9 fun B9 σ9 e9 h9 => ?_
 refine WB.addL 9 (ListAt.own (e9 _ _ f8)) (ListAt.own h9) (by rw [List.length_map, List.length_map]; exact Nat.le_trans (Nat.add_le_add n8 (ifLe _ _)) (by decide)) fun F9 hF9 => ?_
 rw [<- List.map_append]
 have x9 : Extd σ (σ9.put F9 9 (.list ((((((((((if b1 then [("not a hand" : Str)] else []) ++ (if b2 then [("no name" : Str)] else [])) ++ (if b3 then [("not empty" : Str)] else [])) ++ (if b4 then [("twice" : Str)] else [])) ++ (if b5 then [("no team" : Str)] else [])) ++ (if b6 then [("bad share" : Str)] else [])) ++ (if b7 then [("bad name" : Str)] else [])) ++ (if b8 then [("count" : Str)] else [])) ++ (if b9 then [("deed" : Str)] else [])).map .str))) := fun a p q => Hp.new hF9.none (e9 _ _ (x8 _ _ q))
 have f9 : (σ9.put F9 9 (.list ((((((((((if b1 then [("not a hand" : Str)] else []) ++ (if b2 then [("no name" : Str)] else [])) ++ (if b3 then [("not empty" : Str)] else [])) ++ (if b4 then [("twice" : Str)] else [])) ++ (if b5 then [("no team" : Str)] else [])) ++ (if b6 then [("bad share" : Str)] else [])) ++ (if b7 then [("bad name" : Str)] else [])) ++ (if b8 then [("count" : Str)] else [])) ++ (if b9 then [("deed" : Str)] else [])).map .str))) F9 = some (9, .list ((((((((((if b1 then [("not a hand" : Str)] else []) ++ (if b2 then [("no name" : Str)] else [])) ++ (if b3 then [("not empty" : Str)] else [])) ++ (if b4 then [("twice" : Str)] else [])) ++ (if b5 then [("no team" : Str)] else [])) ++ (if b6 then [("bad share" : Str)] else [])) ++ (if b7 then [("bad name" : Str)] else [])) ++ (if b8 then [("count" : Str)] else [])) ++ (if b9 then [("deed" : Str)] else [])).map .str)) := Hp.self
 have n9 : (((((((((if b1 then [("not a hand" : Str)] else []) ++ (if b2 then [("no name" : Str)] else [])) ++ (if b3 then [("not empty" : Str)] else [])) ++ (if b4 then [("twice" : Str)] else [])) ++ (if b5 then [("no team" : Str)] else [])) ++ (if b6 then [("bad share" : Str)] else [])) ++ (if b7 then [("bad name" : Str)] else [])) ++ (if b8 then [("count" : Str)] else [])) ++ (if b9 then [("deed" : Str)] else [])).length <= 9 := addLe n8 (ifLe _ _)
 generalize σ9.put F9 9 (.list ((((((((((if b1 then [("not a hand" : Str)] else []) ++ (if b2 then [("no name" : Str)] else [])) ++ (if b3 then [("not empty" : Str)] else [])) ++ (if b4 then [("twice" : Str)] else [])) ++ (if b5 then [("no team" : Str)] else [])) ++ (if b6 then [("bad share" : Str)] else [])) ++ (if b7 then [("bad name" : Str)] else [])) ++ (if b8 then [("count" : Str)] else [])) ++ (if b9 then [("deed" : Str)] else [])).map .str)) = τ9 at x9 f9 ⊢
 have E10 := x9 _ _ hE
 refine WE.binop (WE.list 9 ?_)
 refine PEs.use (Po PE.str PN) ?_
 refine ⟨by simp, fun L hL => ?_⟩
 refine WE.call rfl rfl (WE.globalA (by kernel_rfl) g_int ?_)
 refine And.intro (Callee.con rfl) (WEs.cons rfl (WE.unary (WE.callP (by kernel_rfl) g_isinstance (Callee.con rfl) (Po PL (Po (PE.globalA (by kernel_rfl) g_ValueError) PN)) rfl ?_)))
 refine WCall.isExc (b := true) (Hp.new hL.none E10) ok isCon k10 ?_
 refine WU.not ?_
 refine Wb (WEs.nil (WCall.intB ?_))
 refine WB.mulL 9 Hp.self (by decide) (by decide) (by simp) fun M hM => ?_
 refine WB.addL 9 (ListAt.own (Hp.new hM.none (Hp.new hL.none f9))) (ListAt.own Hp.self) (by rw [List.length_map]; exact Nat.le_trans (Nat.add_le_add n9 (Nat.le_refl _)) (by decide)) fun F hF => ?_
 have x10 : Extd σ (((τ9.put L 9 (.list [.str "base"])).put M 9 (.list [])).put F 9 (.list ((refL b1 b2 b3 b4 b5 b6 b7 b8 b9).map .str))) := fun a p q => Hp.new hF.none (Hp.new hM.none (Hp.new hL.none (x9 _ _ q)))
 have f10 : (((τ9.put L 9 (.list [.str "base"])).put M 9 (.list [])).put F 9 (.list ((refL b1 b2 b3 b4 b5 b6 b7 b8 b9).map .str))) F = some (9, .list ((refL b1 b2 b3 b4 b5 b6 b7 b8 b9).map .str)) := Hp.self
 have er : (refL b1 b2 b3 b4 b5 b6 b7 b8 b9).map MV.str = (((((((((if b1 then [("not a hand" : Str)] else []) ++ (if b2 then [("no name" : Str)] else [])) ++ (if b3 then [("not empty" : Str)] else [])) ++ (if b4 then [("twice" : Str)] else [])) ++ (if b5 then [("no team" : Str)] else [])) ++ (if b6 then [("bad share" : Str)] else [])) ++ (if b7 then [("bad name" : Str)] else [])) ++ (if b8 then [("count" : Str)] else [])) ++ (if b9 then [("deed" : Str)] else [])).map .str ++ (List.replicate (if (!true) = true then (1 : Int) else 0).toNat [MV.str "base"]).flatten := by unfold refL; rw [List.map_append]; rfl
 rw [<- er]
 change WSt _ _ _ _ _ _ _ (((τ9.put L 9 (.list [.str "base"])).put M 9 (.list [])).put F 9 (.list ((refL b1 b2 b3 b4 b5 b6 b7 b8 b9).map .str)))
 generalize ((τ9.put L 9 (.list [.str "base"])).put M 9 (.list [])).put F 9 (.list ((refL b1 b2 b3 b4 b5 b6 b7 b8 b9).map .str)) = τ10 at x10 f10 ⊢
 refine Wl (by kernel_rfl) ?_
 refine Wc (WS.ret (WE.method (fun _ _ => rfl) rfl rfl rfl (WE.str (WM.join ?_))))
 refine And.intro (Callee.con rfl) (PEs.use (Po PL PN) ?_)
 refine WCall.join (ListAt.own f10) ?_ ?_
 · have : ∀ b1 b2 b3 b4 b5 b6 b7 b8 b9, ((refL b1 b2 b3 b4 b5 b6 b7 b8 b9).map (·.length)).sum + (refL b1 b2 b3 b4 b5 b6 b7 b8 b9).length * ("/" : Str).length <= 16777216 := by decide
   exact this b1 b2 b3 b4 b5 b6 b7 b8 b9
 exact hq _ x10
theorem hand_ShareError {m : Nat} {hn : Bool} {sc' : Scope} (h : sc'.names.lookup ("ShareError" : Str) = some .globalImplicit) : HandOk (cx w mean mg mb) ⟨m, hn, sc'⟩ "ShareError" a_ShareError := ⟨h, g_ShareError, by kernel_rfl, by kernel_rfl, by kernel_rfl⟩
/-- how a refusal is told -/
structure Ref9 (w : World) (mean : ExcName -> Option Value) (mg mb : Str -> Option Value) (C : Nat) (s : Str) : Prop where
 sub : subIn (cx w mean mg mb).K (.ref C) (.ref a_ShareError) = some true
 ref : ∀ {σ : Hp} {E t n : Nat} {hn : Bool} {sc : Scope} {ρ : Lo} {Q : MV -> Hp -> Prop} {X : EX}, σ E = some (t, .exc C) -> (∀ σ', Extd σ σ' -> Q (.str s) σ') -> WFn (cx w mean mg mb) ⟨n + 1, hn, sc⟩ a_law_refusal [.ref E] ρ Q X σ
theorem exc_NotHand : ExcOk (cx w mean mg mb).K a_NotHand := ⟨by kernel_rfl, by kernel_rfl, by kernel_rfl, by kernel_rfl, by kernel_rfl, by kernel_rfl⟩
theorem ref_NotHand : Ref9 w mean mg mb a_NotHand "not a hand" where
 sub := by kernel_rfl
 ref := fun hE hq => refusal_c (b1 := true) (b2 := false) (b3 := false) (b4 := false) (b5 := false) (b6 := false) (b7 := false) (b8 := false) (b9 := false) hE exc_NotHand (by kernel_rfl) (by kernel_rfl) (by kernel_rfl) (by kernel_rfl) (by kernel_rfl) (by kernel_rfl) (by kernel_rfl) (by kernel_rfl) (by kernel_rfl) (by kernel_rfl) fun σ' e => by
  have ej : Txt.join "/" (refL true false false false false false false false false) = "not a hand" := by kernel_rfl
  rw [ej]; exact hq σ' e
theorem exc_NoName : ExcOk (cx w mean mg mb).K a_NoName := ⟨by kernel_rfl, by kernel_rfl, by kernel_rfl, by kernel_rfl, by kernel_rfl, by kernel_rfl⟩
theorem ref_NoName : Ref9 w mean mg mb a_NoName "no name" where
 sub := by kernel_rfl
 ref := fun hE hq => refusal_c (b1 := false) (b2 := true) (b3 := false) (b4 := false) (b5 := false) (b6 := false) (b7 := false) (b8 := false) (b9 := false) hE exc_NoName (by kernel_rfl) (by kernel_rfl) (by kernel_rfl) (by kernel_rfl) (by kernel_rfl) (by kernel_rfl) (by kernel_rfl) (by kernel_rfl) (by kernel_rfl) (by kernel_rfl) fun σ' e => by
  have ej : Txt.join "/" (refL false true false false false false false false false) = "no name" := by kernel_rfl
  rw [ej]; exact hq σ' e
theorem exc_NotEmpty : ExcOk (cx w mean mg mb).K a_NotEmpty := ⟨by kernel_rfl, by kernel_rfl, by kernel_rfl, by kernel_rfl, by kernel_rfl, by kernel_rfl⟩
theorem ref_NotEmpty : Ref9 w mean mg mb a_NotEmpty "not empty" where
 sub := by kernel_rfl
 ref := fun hE hq => refusal_c (b1 := false) (b2 := false) (b3 := true) (b4 := false) (b5 := false) (b6 := false) (b7 := false) (b8 := false) (b9 := false) hE exc_NotEmpty (by kernel_rfl) (by kernel_rfl) (by kernel_rfl) (by kernel_rfl) (by kernel_rfl) (by kernel_rfl) (by kernel_rfl) (by kernel_rfl) (by kernel_rfl) (by kernel_rfl) fun σ' e => by
  have ej : Txt.join "/" (refL false false true false false false false false false) = "not empty" := by kernel_rfl
  rw [ej]; exact hq σ' e
theorem exc_Twice : ExcOk (cx w mean mg mb).K a_Twice := ⟨by kernel_rfl, by kernel_rfl, by kernel_rfl, by kernel_rfl, by kernel_rfl, by kernel_rfl⟩
theorem ref_Twice : Ref9 w mean mg mb a_Twice "twice" where
 sub := by kernel_rfl
 ref := fun hE hq => refusal_c (b1 := false) (b2 := false) (b3 := false) (b4 := true) (b5 := false) (b6 := false) (b7 := false) (b8 := false) (b9 := false) hE exc_Twice (by kernel_rfl) (by kernel_rfl) (by kernel_rfl) (by kernel_rfl) (by kernel_rfl) (by kernel_rfl) (by kernel_rfl) (by kernel_rfl) (by kernel_rfl) (by kernel_rfl) fun σ' e => by
  have ej : Txt.join "/" (refL false false false true false false false false false) = "twice" := by kernel_rfl
  rw [ej]; exact hq σ' e
theorem exc_BadShare : ExcOk (cx w mean mg mb).K a_BadShare := ⟨by kernel_rfl, by kernel_rfl, by kernel_rfl, by kernel_rfl, by kernel_rfl, by kernel_rfl⟩
theorem ref_BadShare : Ref9 w mean mg mb a_BadShare "bad share" where
 sub := by kernel_rfl
 ref := fun hE hq => refusal_c (b1 := false) (b2 := false) (b3 := false) (b4 := false) (b5 := false) (b6 := true) (b7 := false) (b8 := false) (b9 := false) hE exc_BadShare (by kernel_rfl) (by kernel_rfl) (by kernel_rfl) (by kernel_rfl) (by kernel_rfl) (by kernel_rfl) (by kernel_rfl) (by kernel_rfl) (by kernel_rfl) (by kernel_rfl) fun σ' e => by
  have ej : Txt.join "/" (refL false false false false false true false false false) = "bad share" := by kernel_rfl
  rw [ej]; exact hq σ' e
theorem need_hand_no {H dw da : Nat} {tm : List Team} {ab : List (Str × Str)} {u : MV} (h : HouseD σ H dw da tm ab) (hs : ∀ {Q' : MV -> Hp -> Prop} {ρ' : Lo} {sc' : Scope}, WFn (cx w mean mg mb) ⟨n + 1, true, sc'⟩ m_House_need [.ref H, u] ρ' Q' (fun _ C e σ' => X false C e σ') σ) : WFn (cx w mean mg mb) ⟨n + 2, true, sc⟩ m_House_need_hand [.ref H, u] ρ Q X σ := by
 have hH := h.hou
 refine WFn.fn2X (p1 := "self") (p2 := "name") (FnAt.of2 (rfl : (Mine.hd.heap_39 w.params).lookup m_House_need_hand = _) (by kernel_rfl) (fun _ _ => rfl) (by kernel_rfl)) ?_
 refine Wc (WS.assign (fun _ _ _ => rfl) (WE.mp PL ‹_› ms_House_need (Po PL PN) ?_))
 exact Wf hs
theorem need_hand_team {H dw da : Nat} {tm : List Team} {ab : List (Str × Str)} {t : Team} {up : Str} (h : HouseD σ H dw da tm ab) (ht : t ∈ tm) (hm : (t.name, up) ∈ ab) (hx : ∀ e, X false a_NotHand e σ) : WFn (cx w mean mg mb) ⟨n + 2, true, sc⟩ m_House_need_hand [.ref H, .str t.name] ρ Q X σ := by
 have hH := h.hou
 have hd := h.dws
 have hg := getK_team h ht
 refine WFn.fn2X (p1 := "self") (p2 := "name") (FnAt.of2 (rfl : (Mine.hd.heap_39 w.params).lookup m_House_need_hand = _) (by kernel_rfl) (fun _ _ => rfl) (by kernel_rfl)) ?_
 refine Wc (WS.assign (fun _ _ _ => rfl) (WE.mp PL ‹_› ms_House_need (Po PL PN) ?_))
 refine Wf (hneed_c h hm ?_)
 refine Wl (by kernel_rfl) ?_
 refine Wc (WS.ite (WT.cmp1 rfl (WE.lo ?_)))
 refine PE.use (PE.at PL ‹_› lk_head) ?_
 refine WC.inS_t ‹_› ‹_› ?_
 refine Wb (if_tt (Wc (WS.raise rfl (by kernel_rfl) g_NotHand (by kernel_rfl) PySem.F.excBase_ValueError PySem.F.excBase_ValueError (by kernel_rfl) rfl ?_)))
 refine WE.str ?_
 exact hx
theorem wake_hno {H dw da : Nat} {tm : List Team} {ab : List (Str × Str)} {u : MV} (h : HouseD σ H dw da tm ab) (hs : ∀ {Q' : MV -> Hp -> Prop} {ρ' : Lo} {sc' : Scope}, WFn (cx w mean mg mb) ⟨n + 2, true, sc'⟩ m_House_need_hand [.ref H, u] ρ' Q' (fun _ C e σ' => X false C e σ') σ) : WFn (cx w mean mg mb) ⟨n + 3, true, sc⟩ m_House_wake [.ref H, u] ρ Q X σ := by
 have hH := h.hou
 refine WFn.fn2X (p1 := "self") (p2 := "name") (FnAt.of2 (rfl : (Mine.hd.heap_39 w.params).lookup m_House_wake = _) (by kernel_rfl) (fun _ _ => rfl) (by kernel_rfl)) ?_
 refine Wc (WS.assign (fun _ _ _ => rfl) (WE.mp PL ‹_› ms_House_need_hand (Po PL PN) ?_))
 exact Wf hs
theorem rest_hno {H dw da : Nat} {tm : List Team} {ab : List (Str × Str)} {u : MV} (h : HouseD σ H dw da tm ab) (hs : ∀ {Q' : MV -> Hp -> Prop} {ρ' : Lo} {sc' : Scope}, WFn (cx w mean mg mb) ⟨n + 2, true, sc'⟩ m_House_need_hand [.ref H, u] ρ' Q' (fun _ C e σ' => X false C e σ') σ) : WFn (cx w mean mg mb) ⟨n + 3, true, sc⟩ m_House_rest [.ref H, u] ρ Q X σ := by
 have hH := h.hou
 refine WFn.fn2X (p1 := "self") (p2 := "name") (FnAt.of2 (rfl : (Mine.hd.heap_39 w.params).lookup m_House_rest = _) (by kernel_rfl) (fun _ _ => rfl) (by kernel_rfl)) ?_
 refine Wc (WS.assign (fun _ _ _ => rfl) (WE.mp PL ‹_› ms_House_need_hand (Po PL PN) ?_))
 exact Wf hs
theorem moved_bad {H dw da C : Nat} {tm : List Team} {ab : List (Str × Str)} {u : MV} {up : Bool} {s : Str} (h : HouseD σ H dw da tm ab) (R : Ref9 w mean mg mb C s) (hs : ∀ {Q' : MV -> Hp -> Prop} {ρ' : Lo} {sc' : Scope} {X' : EX}, (∀ e, X' false C e σ) -> WFn (cx w mean mg mb) ⟨n + 2, true, sc'⟩ m_House_need_hand [.ref H, u] ρ' Q' X' σ) (hq : ∀ σ', Extd σ σ' -> Q (.str s) σ') : WFn (cx w mean mg mb) ⟨n + 4, true, sc⟩ a_law_moved [.ref H, u, .bool up] ρ Q X σ := by
 have hH := h.hou
 refine WFn.fn3 (p1 := "_law_house") (p2 := "_law_name") (p3 := "_law_up") (FnAt.of3 (rfl : (Mine.hd.heap_39 w.params).lookup a_law_moved = _) (by kernel_rfl) (fun _ _ _ => rfl) (by kernel_rfl)) ?_
 cases up with
 | true =>
  refine Wc (WS.try ?_)
  refine Wc (WS.ret (WE.ifexp ?_))
  refine PT.use (PT.plain (fun _ _ => rfl) PL) ?_
  refine if_tt (WE.mp PL ‹_› ms_House_wake (Po PL PN) ?_)
  refine Wf (wake_hno h fun {Q' ρ' sc'} => hs fun e => ?_)
  refine ⟨rfl, WH.hitAsA 9 (hand_ShareError (by kernel_rfl)) R.sub (by kernel_rfl) fun he => ?_⟩
  refine Wc (WS.ret (WE.cp g_law_refusal fn_law_refusal (Po PL PN) ?_))
  refine Wf (R.ref Hp.self fun σ2 e2 => ?_)
  exact hq σ2 fun a p q => e2 _ _ (Hp.new he q)
 | false =>
  refine Wc (WS.try ?_)
  refine Wc (WS.ret (WE.ifexp ?_))
  refine PT.use (PT.plain (fun _ _ => rfl) PL) ?_
  refine if_ff (WE.mp PL ‹_› ms_House_rest (Po PL PN) ?_)
  refine Wf (rest_hno h fun {Q' ρ' sc'} => hs fun e => ?_)
  refine ⟨rfl, WH.hitAsA 9 (hand_ShareError (by kernel_rfl)) R.sub (by kernel_rfl) fun he => ?_⟩
  refine Wc (WS.ret (WE.cp g_law_refusal fn_law_refusal (Po PL PN) ?_))
  refine Wf (R.ref Hp.self fun σ2 e2 => ?_)
  exact hq σ2 fun a p q => e2 _ _ (Hp.new he q)
theorem moved_c {H dw da k j : Nat} {tm : List Team} {ab : List (Str × Str)} {t : Team} {x : Shr} {up : Bool} (h : HouseD σ H dw da tm ab) (tr : Tree tm ab) (lk : Link tm ab fun _ => False) (hk : tm[k]? = some t) (hj : t.l[j]? = some x) (hn : x.name ∉ tm.map (·.name)) (hz : ∀ u ∈ tm, u.l.length <= 1000000)
 (hq : ∀ tm' σ', HouseD σ' H dw da tm' ab -> Chg (if up then woken else rested) x.name up tm tm' ab -> KpH σ σ' -> Q (.bool (x.ready != up)) σ') : WFn (cx w mean mg mb) ⟨n + 5, true, sc⟩ a_law_moved [.ref H, .str x.name, .bool up] ρ Q X σ := by
 have hH := h.hou
 refine WFn.fn3 (p1 := "_law_house") (p2 := "_law_name") (p3 := "_law_up") (FnAt.of3 (rfl : (Mine.hd.heap_39 w.params).lookup a_law_moved = _) (by kernel_rfl) (fun _ _ _ => rfl) (by kernel_rfl)) ?_
 cases up with
 | true =>
  have eb : (x.ready != true) = !x.ready := by cases x.ready <;> rfl
  rw [eb] at hq
  refine Wc (WS.try ?_)
  refine Wc (WS.ret (WE.ifexp ?_))
  refine PT.use (PT.plain (fun _ _ => rfl) PL) ?_
  refine if_tt (WE.mp PL ‹_› ms_House_wake (Po PL PN) ?_)
  refine Wf (hwake_c h tr lk hk hj hn fun tm' σ' U l' => ?_)
  exact hq tm' σ' U.h ⟨U.u, U.s, U.hd, l'⟩ U.kp
 | false =>
  have eb : (x.ready != false) = x.ready := by cases x.ready <;> rfl
  rw [eb] at hq
  refine Wc (WS.try ?_)
  refine Wc (WS.ret (WE.ifexp ?_))
  refine PT.use (PT.plain (fun _ _ => rfl) PL) ?_
  refine if_ff (WE.mp PL ‹_› ms_House_rest (Po PL PN) ?_)
  refine Wf (hrest_c h tr lk hk hj hn hz fun tm' σ' U l' => ?_)
  exact hq tm' σ' U.h ⟨U.u, U.s, U.hd, l'⟩ U.kp
/-- what a round keeps -/
structure Rd10 (s : Int) (σ : Hp) (H dw da dm B : Nat) (ts : List Nat) (N : Nat) (tm tn : List Team) (ab : List (Str × Str)) (R : List Row5) : Prop where
 h : HouseD σ H dw da tm ab
 m : MirD σ dm tn
 cor : tn.map coreT = tm.map coreT
 rel : Rel4 tm ab (R.map Row5.to4)
 rows : Rows5 σ B R ts
 ok : ROk5 s R
 rl : R.length <= 25
 bd : Bd N tm ab
 gk : ∀ t ∈ tn, t.g < 21 + N
 rdy : ∀ (k : Nat) (r : Row5), R[k]? = some r -> r.here = true -> r.team = false -> ∀ (i : Nat) (t : Team) (j : Nat) (x : Shr), tm[i]? = some t -> t.l[j]? = some x -> x.name = r.name -> x.ready = r.rdy
 rt : ∀ (k : Nat) (r : Row5), R[k]? = some r -> (r.team = true ∨ r.here = false) -> r.rdy = false
 sh : ∀ (k : Nat) (r : Row5), R[k]? = some r -> 1 <= r.share /\ r.share <= 12
theorem Rd10.ext {s : Int} {σ σ' : Hp} {H dw da dm B : Nat} {ts : List Nat} {N : Nat} {tm tn : List Team} {ab : List (Str × Str)} {R : List Row5} (d : Rd10 s σ H dw da dm B ts N tm tn ab R) (e : Extd σ σ') : Rd10 s σ' H dw da dm B ts N tm tn ab R :=
 ⟨d.h.ext e, d.m.keep fun q _ _ => e _ _ q, d.cor, d.rel, d.rows.ext e, d.ok, d.rl, d.bd, d.gk, d.rdy, d.rt, d.sh⟩
theorem to4_at {R : List Row5} {k : Nat} {r : Row5} (h : R[k]? = some r) : (R.map Row5.to4)[k]? = some r.to4 := by rw [List.getElem?_map, h]; rfl
theorem to4_back {R : List Row5} {k : Nat} {q : Row4} (h : (R.map Row5.to4)[k]? = some q) : ∃ r, R[k]? = some r /\ q = r.to4 := by
 rw [List.getElem?_map] at h
 refine eEA (Option.map_eq_some_iff.mp h) fun r hr e => ?_
 exact (iEA r hr e.symm)
theorem to4_len (R : List Row5) : (R.map Row5.to4).length = R.length := List.length_map ..
/-- where a row's sharer stands, in the house and in the law's own wheels -/
theorem Rd10.place {s : Int} {σ : Hp} {H dw da dm B : Nat} {ts : List Nat} {N : Nat} {tm tn : List Team} {ab : List (Str × Str)} {R : List Row5} (d : Rd10 s σ H dw da dm B ts N tm tn ab R) {k : Nat} {r : Row5} (hk : R[k]? = some r) (hh : r.here = true) :
 ∃ (i : Nat) (t : Team) (j : Nat) (x : Shr) (t' : Team) (x' : Shr), tm[i]? = some t /\ t.name = r.up /\ t.l[j]? = some x /\ x.name = r.name /\ tn[i]? = some t' /\ coreT t' = coreT t /\ t'.l[j]? = some x' /\ core x' = core x := by
 refine eEEEEAAA (d.rel.ent k r.to4 (to4_at hk) hh) fun i t j x a1 a2 a3 a4 => ?_
 refine eEA (coreT_at d.cor a1) fun t' b1 b2 => ?_
 have b3 : t'.l.map core = t.l.map core := congrArg (·.2.2) b2
 refine eEA (core_at b3 a3) fun x' c1 c2 => ?_
 exact (iE6 i t j x t' x' (iA7 a1 a2 a3 a4 b1 b2 c1 c2))
theorem Rd10.abv {s : Int} {σ : Hp} {H dw da dm B : Nat} {ts : List Nat} {N : Nat} {tm tn : List Team} {ab : List (Str × Str)} {R : List Row5} (d : Rd10 s σ H dw da dm B ts N tm tn ab R) : Abv ab R := by
 refine ⟨fun nm u h => ?_, fun i i' r r' h1 h2 e => ?_⟩
 · refine eEEAA ((d.rel.abm _).mp h) fun k q c1 c2 c3 => ?_
   refine eEA (to4_back c1) fun r hr z1' => ?_; subst z1'
   exact (iEEAA k r hr ((congrArg (·.1) c3).symm) ((congrArg (·.2) c3).symm))
 · exact row_inj d.ok.to4 (by rw [to4_len]; have := d.rl; exact Nat.le_trans ‹_› (by decide)) (to4_at h1) (to4_at h2) e
/-- the law's own wheels stand as the house's do -/
theorem tree_core {tm tn : List Team} {ab : List (Str × Str)} (hc : tn.map coreT = tm.map coreT) (h : Tree tm ab) : Tree tn ab := by
 have at_ : ∀ {k : Nat} {t : Team}, tm[k]? = some t -> ∃ t', tn[k]? = some t' /\ t'.name = t.name /\ t'.l.map core = t.l.map core := fun hk => by
  refine eEA (coreT_at hc hk) fun t' b1 b2 => ?_
  exact (iEAA t' b1 (congrArg (·.1) b2) (congrArg (·.2.2) b2))
 have bk : ∀ {k : Nat} {t : Team}, tn[k]? = some t -> ∃ t', tm[k]? = some t' /\ t'.name = t.name /\ t'.l.map core = t.l.map core := fun hk => by
  refine eEA (coreT_at hc.symm hk) fun t' b1 b2 => ?_
  exact (iEAA t' b1 (congrArg (·.1) b2) (congrArg (·.2.2) b2))
 refine ⟨?_, ?_, ?_, h.top⟩
 · refine eEA h.root fun t h1 h2 => ?_
   refine eEAA (at_ h1) fun t' b1 b2 _ => ?_
   exact (iEA t' b1 (b2.trans h2))
 · intro k t hk hpos
   refine eEAA (bk hk) fun t0 b1 b2 b3 => ?_
   refine eEEEEAAAA (h.up k t0 b1 hpos) fun k' t' j x lt c1 c2 c3 c4 => ?_
   refine eEAA (at_ c1) fun t1 d1 d2 d3 => ?_
   refine eEA (core_at d3 c3) fun x1 e1 e2 => ?_
   exact (iEEEEAAAA k' t1 j x1 lt d1 (by rw [d2, <- b2]; exact c2) e1 (by rw [show x1.name = x.name from congrArg (·.1) e2, c4, b2]))
 · intro k t j x hk hj
   refine eEAA (bk hk) fun t0 b1 b2 b3 => ?_
   refine eEA (core_at b3 hj) fun x0 c1 c2 => ?_
   have := h.mem k t0 j x0 b1 c1
   rwa [b2, show x0.name = x.name from congrArg (·.1) c2] at this
theorem link_core {tm tn : List Team} {ab : List (Str × Str)} (hc : tn.map coreT = tm.map coreT) (h : Link tm ab fun _ => False) : Link tn ab fun _ => False := fun k t k' t' j x h1 _ h2 h3 h4 h5 => by
 refine eEA (coreT_at hc.symm h1) fun t0 b1 b2 => ?_
 refine eEA (coreT_at hc.symm h3) fun t1 c1 c2 => ?_
 have b3 : t0.l.map core = t.l.map core := congrArg (·.2.2) b2
 have c3 : t1.l.map core = t'.l.map core := congrArg (·.2.2) c2
 refine eEA (core_at c3 h4) fun x0 d1 d2 => ?_
 have e1 : t0.name = t.name := congrArg (·.1) b2
 have e2 : t1.name = t'.name := congrArg (·.1) c2
 have := h k t0 k' t1 j x0 b1 (fun q => q) (by rw [e1, e2]; exact h2) c1 d1 (by rw [show x0.name = x.name from congrArg (·.1) d2, e1]; exact h5)
 rw [show x0.ready = x.ready from congrArg (·.2.2.2) d2, anyR_core b3] at this
 exact this
/-- what the law's deeds leave alone: all but the house, the law's own wheels and the rows -/
def KpW (σ σ' : Hp) : Prop := ∀ a t o, σ a = some (t, o) -> t ≠ 1 -> t ≠ 2 -> t ≠ 7 -> t < 20 -> σ' a = some (t, o)
theorem KpW.trans {σ σ' σ'' : Hp} (h : KpW σ σ') (k : KpW σ' σ'') : KpW σ σ'' := fun a t o q m1 m2 m7 m20 => k a t o (h a t o q m1 m2 m7 m20) m1 m2 m7 m20
theorem Extd.kpw {σ σ' : Hp} (e : Extd σ σ') : KpW σ σ' := fun _ _ _ q _ _ _ _ => e _ _ q
theorem KpH.kpw {σ σ' : Hp} (e : KpH σ σ') : KpW σ σ' := fun _ _ _ q m1 _ _ m20 => e _ _ _ q m1 (by omega)
theorem KpT.kpw {σ σ' : Hp} {dm : Nat} {tn : List Team} (m : MirD σ dm tn) (e : KpT (tn.map (·.g)) σ σ') : KpW σ σ' := fun _ t _ q _ _ _ m20 => e _ _ _ q fun hm => by
 refine eEA (Mm hm) fun v hv ev => ?_
 have := m.gg v hv
 omega
theorem HouseD.kpt {σ σ' : Hp} {H dw da dm : Nat} {tm tn : List Team} {ab : List (Str × Str)} (h : HouseD σ H dw da tm ab) (m : MirD σ dm tn) (e : KpT (tn.map (·.g)) σ σ') : HouseD σ' H dw da tm ab := by
 have no : ∀ {t : Nat}, t < 20 ∨ 96 <= t -> t ∉ tn.map (·.g) := fun ht hm => by
  refine eEA (Mm hm) fun v hv ev => ?_
  have := m.gg v hv
  omega
 exact h.keep (fun q => e _ _ _ q (no (.inl (by decide)))) (fun q h100 => e _ _ _ q (no (.inr (by omega))))
/-- a change that changes nothing -/
theorem chg_idle {g : Int -> Shr -> Shr} {b : Bool} {tm : List Team} {ab : List (Str × Str)} (tr : Tree tm ab) (lk : Link tm ab fun _ => False) (an : (ab.map (·.1)).Nodup) (nd : Ndp tm) {i j : Nat} {t : Team} {x : Shr} (hi : tm[i]? = some t) (hj : t.l[j]? = some x) (hx : x.ready = b) : Chg g x.name b tm tm ab := by
 refine ⟨Upd.refl g tm, Same.refl tm, fun k u m y h1 h2 _ => (iEEAAA u y h1 h2 rfl ?_), lk⟩
 show y.ready = if y.name = x.name then b else y.ready
 by_cases e : y.name = x.name
 · rw [if_pos e]
   have := uniq tr an nd.tn h1 h2 hi hj e
   subst this
   have := Oi (h1.symm.trans hi)
   subst this
   have := nodup_at (nd.nn u (Mg hi)) h2 hj e
   subst this
   rw [Oi (h2.symm.trans hj)]; exact hx
 · rw [if_neg e]
theorem mir_ndp {σ : Hp} {dm : Nat} {tn : List Team} (m : MirD σ dm tn) : Ndp tn := ⟨m.tn, fun t ht => (m.whl t ht).nn⟩
theorem core_names {tm tn : List Team} (hc : tn.map coreT = tm.map coreT) : tn.map (·.name) = tm.map (·.name) := coreT_names hc
theorem core_lens {tm tn : List Team} (hc : tn.map coreT = tm.map coreT) (h : ∀ u ∈ tm, u.l.length <= 1000000) : ∀ u ∈ tn, u.l.length <= 1000000 := fun u hu => by
 obtain ⟨k, hk⟩ := Mi hu
 refine eEA (coreT_at hc.symm hk) fun t b1 b2 => ?_
 have := congrArg List.length (show t.l.map core = u.l.map core from congrArg (·.2.2) b2)
 rw [List.length_map, List.length_map] at this
 rw [<- this]; exact h t (Mg b1)
/-- the rows follow a change of readiness -/
theorem Rd10.chg {s : Int} {σ σ' : Hp} {H dw da dm B N k : Nat} {ts : List Nat} {tm tm' tn tn' : List Team} {ab : List (Str × Str)} {R : List Row5} {r : Row5} {up : Bool} {g : Int -> Shr -> Shr} (gok : GOk g up) (d : Rd10 s σ H dw da dm B ts N tm tn ab R) (hk : R[k]? = some r) (hh : r.here = true) (ht : r.team = false)
 (h' : HouseD σ' H dw da tm' ab) (m' : MirD σ' dm tn') (c1 : Chg g r.name up tm tm' ab) (c2 : Chg g r.name up tn tn' ab) (hR : Rows5 σ' B (R.set k { r with rdy := up }) ts) : Rd10 s σ' H dw da dm B ts N tm' tn' ab (R.set k { r with rdy := up }) := by
 have hkl := (Gs hk).1
 have hl := d.rl
 have e4 : (R.set k { r with rdy := up }).map Row5.to4 = R.map Row5.to4 := map_set_same Row5.to4 hk rfl
 have at_ : ∀ {m : Nat} {q : Row5}, (R.set k { r with rdy := up })[m]? = some q -> (m = k /\ q = { r with rdy := up }) ∨ (m ≠ k /\ R[m]? = some q) := fun {m q} h => by
  by_cases e : k = m
  · subst e
    rw [List.getElem?_set_self hkl] at h
    exact .inl ⟨rfl, (Oi h).symm⟩
  · rw [List.getElem?_set_ne e] at h
    exact .inr ⟨Ne.symm e, h⟩
 refine ⟨h', m', chg_det gok d.rel.tr d.h.an d.h.tn d.cor c1 c2, by rw [e4]; exact d.rel.same c1.s c1.lk, hR, ⟨fun m q h => ?_⟩, by rw [List.length_set]; exact hl, d.bd.same c1.s, fun t ht' => ?_, fun m q h h1 h2 i t j x a1 a2 a3 => ?_, fun m q h h1 => ?_, fun m q h => ?_⟩
 · rcases at_ h with ⟨rfl, rfl⟩ | ⟨_, h⟩
   · exact d.ok.nm m r hk
   · exact d.ok.nm m q h
 · obtain ⟨i, hi⟩ := Mi ht'
   refine eEA (Mm (gs_mem c2.s hi)) fun v hv e => ?_
   rw [<- e]; exact d.gk v hv
 · refine eEAA (c1.s.back a1) fun t0 b1 _ b3 => ?_
   refine eEAA (rows_at b3.symm a2) fun x0 c1' c2' _ => ?_
   have hx0 : x0.name = q.name := c2'.trans a3
   have hq0 : ∃ q0, R[m]? = some q0 /\ q0.name = q.name /\ q0.here = q.here /\ q0.team = q.team := by
    rcases at_ h with ⟨rfl, rfl⟩ | ⟨_, h⟩
    · exact (iEAAA r hk rfl rfl rfl)
    · exact (iEAAA q h rfl rfl rfl)
   refine eEAAA hq0 fun q0 z1' n0 hh0 ht0 => ?_; clear hq0; have hq0 := z1'; clear z1'
   have nN : x0.name ∉ tm.map (·.name) := by
    rw [hx0, <- n0]
    have := team_of d.rel d.ok.to4 (by rw [to4_len]; exact Nat.le_trans ‹_› (by decide)) (to4_at hq0)
    rw [show q0.to4.name = q0.name from rfl] at this
    rw [this]
    exact fun w => by have w2 : q0.team = true := w.2; rw [ht0, h2] at w2; exact nomatch w2
   refine eEEAAA (c1.hd i t0 j x0 b1 c1' nN) fun t2 y2 e1 e2 e3 e4' => ?_
   have : t2 = t := Oi (e1.symm.trans a1)
   subst this
   have : y2 = x := Oi (e2.symm.trans a2)
   subst this
   rw [e4']
   show (if x0.name = r.name then up else x0.ready) = q.rdy
   rcases at_ h with ⟨rfl, rfl⟩ | ⟨hne, hq⟩
   · rw [if_pos hx0]
   · have hne2 : ¬ x0.name = r.name := fun e => hne (row_inj d.ok.to4 (by rw [to4_len]; exact Nat.le_trans ‹_› (by decide)) (to4_at hq) (to4_at hk) (hx0.symm.trans e))
     rw [if_neg hne2]
     exact d.rdy m q hq h1 h2 i t0 j x0 b1 c1' hx0
 · rcases at_ h with ⟨rfl, rfl⟩ | ⟨_, h⟩
   · rcases h1 with h1 | h1
     · exact absurd (ht.symm.trans h1) nofun
     · exact absurd (hh.symm.trans h1) nofun
   · exact d.rt m q h h1
 · rcases at_ h with ⟨rfl, rfl⟩ | ⟨_, h⟩
   · exact d.sh m r hk
   · exact d.sh m q h
theorem Rd10.row {s : Int} {σ : Hp} {H dw da dm B N k u : Nat} {ts : List Nat} {tm tn : List Team} {ab : List (Str × Str)} {R : List Row5} {r : Row5} (d : Rd10 s σ H dw da dm B ts N tm tn ab R) (hk : R[k]? = some r) (hu : ts[k]? = some u) : σ u = some (7, .list [.str r.name, .str r.up, .int r.share, .bool r.team, .bool r.rdy, .bool r.here]) := by
 refine eEA (d.rows.at hk) fun u' h1 h2 => ?_
 have : u' = u := Oi (h1.symm.trans hu)
 rw [<- this]; exact h2
theorem mark5 {σ : Hp} {H dw da dm B k u : Nat} {tm tn : List Team} {ab : List (Str × Str)} {R : List Row5} {ts : List Nat} {o : MO} (y : Row5) (h : HouseD σ H dw da tm ab) (m : MirD σ dm tn) (hR : Rows5 σ B R ts) (hu : ts[k]? = some u) (hru : σ u = some (7, o)) :
 HouseD (σ.put u 7 (.list (rowW y))) H dw da tm ab /\ MirD (σ.put u 7 (.list (rowW y))) dm tn /\ Rows5 (σ.put u 7 (.list (rowW y))) B (R.set k y) ts /\ KpW σ (σ.put u 7 (.list (rowW y))) /\ (σ.put u 7 (.list (rowW y))) u = some (7, .list [.str y.name, .str y.up, .int y.share, .bool y.team, .bool y.rdy, .bool y.here]) :=
 ⟨h.keep (fun q => Hp.tag hru (by decide) q) (fun q h100 => Hp.tag hru (by omega) q),
  ⟨Hp.tag hru (by decide) m.dic, fun t ht => (m.whl t ht).keep ⟨fun a o q => Hp.tag hru (by have := m.gg t ht; omega) q⟩, m.tn, m.tg, m.gg⟩, hR.upd hu hru, fun a t o q _ _ m7 _ => Hp.tag hru m7 q, Hp.self⟩
def wokenR (up : Bool) (r : Row5) : Row5 := if r.here = true /\ r.team = false then { r with rdy := up } else r
theorem woken_c {s : Int} {H dw da dm B N k u : Nat} {ts : List Nat} {tm tn : List Team} {ab : List (Str × Str)} {R : List Row5} {r : Row5} {up : Bool} (d : Rd10 s σ H dw da dm B ts N tm tn ab R) (hN : N <= 500) (hk : R[k]? = some r) (hu : ts[k]? = some u)
 (hq : ∀ tm' tn' σ', Rd10 s σ' H dw da dm B ts N tm' tn' ab (R.set k (wokenR up r)) -> KpW σ σ' -> Q (.bool true) σ') : WFn (cx w mean mg mb) ⟨n + 6, true, sc⟩ a_law_woken [.ref H, .ref B, .ref dm, .ref u, .bool up] ρ Q X σ := by
 have hl := d.rl
 have hru := d.row hk hu
 have hHo := d.h.hou
 have r4 := to4_at hk
 have rl4 : (R.map Row5.to4).length <= 26 := by rw [to4_len]; exact Nat.le_trans ‹_› (by decide)
 have z0 : [MV.str r.name, .str r.up, .int r.share, .bool r.team, .bool r.rdy, .bool r.here][Int.toNat 0]? = some (.str r.name) := rfl
 have z3 : [MV.str r.name, .str r.up, .int r.share, .bool r.team, .bool r.rdy, .bool r.here][Int.toNat 3]? = some (.bool r.team) := rfl
 have z4 : [MV.str r.name, .str r.up, .int r.share, .bool r.team, .bool r.rdy, .bool r.here][Int.toNat 4]? = some (.bool r.rdy) := rfl
 have z5 : [MV.str r.name, .str r.up, .int r.share, .bool r.team, .bool r.rdy, .bool r.here][Int.toNat 5]? = some (.bool r.here) := rfl
 have same : ∀ {σ' : Hp}, ¬ (r.here = true /\ r.team = false) -> Extd σ σ' -> Q (.bool true) σ' := fun {σ'} hc e => by
  refine hq tm tn σ' ?_ e.kpw
  have : wokenR up r = r := by unfold wokenR; rw [if_neg hc]
  rw [this, set_same hk]
  exact d.ext e
 refine WFn.fn5 (p1 := "_law_house") (p2 := "_law_rows") (p3 := "_law_wheels") (p4 := "_law_row") (p5 := "_law_up") (FnAt.of5 (rfl : (Mine.hd.heap_39 w.params).lookup a_law_woken = _) (by kernel_rfl) (fun _ _ _ _ _ => rfl) (by kernel_rfl)) ?_
 cases hh : r.here with
 | false =>
  rw [hh] at hru z0 z3 z4 z5
  obtain ⟨hna, _⟩ := gone_new d.rel d.ok.to4 rl4 r4 hh
  refine Wc (WS.assign (fun _ _ _ => rfl) (WE.ifexp ?_))
  refine PT.use (PT.not (PT.plain (fun _ _ => rfl) (Px PL ‹_› ‹_›))) ?_
  refine if_nf ?_
  refine WE.str (Wl (by kernel_rfl) ?_)
  refine Wc (WS.assign (fun _ _ _ => rfl) (WE.cp g_law_moved fn_law_moved (Po PL (Po (Px PL ‹_› ‹_›) (Po PL PN))) ?_))
  refine Wf (moved_bad d.h ref_NoName (fun {Q' ρ' sc' X'} hx => need_hand_no d.h fun {Q2 ρ2 sc2} => hneed_no d.h hna fun e => hx e) fun σ' e => ?_)
  have hru' := e _ _ hru
  have bs : (("no name" : Str) != "no name") = false := bne_self_eq_false ..
  refine Wl (by kernel_rfl) ?_
  refine Wc (WS.ite (WT.bool (WA.or (PT.use (PT.cmp1 rfl PL PL PC.neS) ?_))))
  refine if_pf ‹_› ?_
  refine WA.or (WT.cmp1 rfl (WE.callP (by kernel_rfl) g_isinstance (Callee.con rfl) (Po PL (Po (PE.globalA (by kernel_rfl) g_bool) PN)) rfl ?_))
  refine WCall.isinstance KindOf.str k_str_bool ?_
  refine WE.callP (by kernel_rfl) g_isinstance (Callee.con rfl) (Po PL (Po (PE.globalA (by kernel_rfl) g_bool) PN)) rfl ?_
  refine WCall.isinstance KindOf.str k_str_bool ?_
  refine WC.neB ?_
  refine Wb (if_pf (by decide) ?_)
  refine WA.or_nil (if_ff (Wn (WSs.skipP (PT.boolop (PA.andF (PT.plain (fun _ _ => rfl) (Px PL ‹_› ‹_›)) rfl)) rfl ?_)))
  refine WSs.retP PE.bool ?_
  exact same (fun w => by rw [hh] at w; exact nomatch w.1) e
 | true =>
  rw [hh] at hru z0 z3 z4 z5
  cases ht : r.team with
  | true =>
   rw [ht] at hru z0 z3 z4 z5
   refine eEA (Mm ((team_of d.rel d.ok.to4 rl4 r4).mpr ⟨hh, ht⟩)) fun t htm et => ?_
   have hm : (t.name, r.up) ∈ ab := by
    rw [et]
    exact (d.rel.abm _).mpr (iEEAA k r.to4 r4 hh rfl)
   have et : t.name = r.name := et
   refine Wc (WS.assign (fun _ _ _ => rfl) (WE.ifexp ?_))
   refine PT.use (PT.not (PT.plain (fun _ _ => rfl) (Px PL ‹_› ‹_›))) ?_
   refine if_nt ?_
   refine WE.ifexp ?_
   refine PT.use (PT.plain (fun _ _ => rfl) (Px PL ‹_› ‹_›)) ?_
   refine if_tt (WE.str (Wl (by kernel_rfl) ?_))
   refine Wc (WS.assign (fun _ _ _ => rfl) (WE.cp g_law_moved fn_law_moved (Po PL (Po (Px PL ‹_› ‹_›) (Po PL PN))) ?_))
   rw [<- et]
   refine Wf (moved_bad d.h ref_NotHand (fun {Q' ρ' sc' X'} hx => need_hand_team d.h htm hm fun e => hx e) fun σ' e => ?_)
   have hru' := e _ _ hru
   have bs : (("not a hand" : Str) != "not a hand") = false := bne_self_eq_false ..
   refine Wl (by kernel_rfl) ?_
   refine Wc (WS.ite (WT.bool (WA.or (PT.use (PT.cmp1 rfl PL PL PC.neS) ?_))))
   refine if_pf ‹_› ?_
   refine WA.or (WT.cmp1 rfl (WE.callP (by kernel_rfl) g_isinstance (Callee.con rfl) (Po PL (Po (PE.globalA (by kernel_rfl) g_bool) PN)) rfl ?_))
   refine WCall.isinstance KindOf.str k_str_bool ?_
   refine WE.callP (by kernel_rfl) g_isinstance (Callee.con rfl) (Po PL (Po (PE.globalA (by kernel_rfl) g_bool) PN)) rfl ?_
   refine WCall.isinstance KindOf.str k_str_bool ?_
   refine WC.neB ?_
   refine Wb (if_pf (by decide) ?_)
   refine WA.or_nil (if_ff (Wn (WSs.skipP (PT.boolop (PA.andT (PT.plain (fun _ _ => rfl) (Px PL ‹_› ‹_›)) rfl (PA.andF (PT.not (PT.plain (fun _ _ => rfl) (Px PL ‹_› ‹_›))) rfl))) rfl ?_)))
   refine WSs.retP PE.bool ?_
   exact same (fun w => by rw [ht] at w; exact nomatch w.2) e
  | false =>
   rw [ht] at hru z0 z3 z4 z5
   refine eE6 (d.place hk hh) fun i t j x t' x' y0' => eA7 y0' fun a1 a2 a3 a4 b1 b2 b3 b4 => ?_
   have xr : x.ready = r.rdy := d.rdy k r hk hh ht i t j x a1 a3 a4
   have hnN : x.name ∉ tm.map (·.name) := by
    rw [a4]
    have := team_of d.rel d.ok.to4 rl4 r4
    rw [show r.to4.name = r.name from rfl] at this
    rw [this]
    exact fun w => by have w2 : r.team = true := w.2; rw [ht] at w2; exact nomatch w2
   refine Wc (WS.assign (fun _ _ _ => rfl) (WE.ifexp ?_))
   refine PT.use (PT.not (PT.plain (fun _ _ => rfl) (Px PL ‹_› ‹_›))) ?_
   refine if_nt ?_
   refine WE.ifexp ?_
   refine PT.use (PT.plain (fun _ _ => rfl) (Px PL ‹_› ‹_›)) ?_
   refine if_ff (PE.use (PE.cmp1 rfl (Px PL ‹_› ‹_›) PL PC.neB) ?_)
   refine Wl (by kernel_rfl) ?_
   refine Wc (WS.assign (fun _ _ _ => rfl) (WE.cp g_law_moved fn_law_moved (Po PL (Po (Px PL ‹_› ‹_›) (Po PL PN))) ?_))
   rw [<- a4]
   refine Wf (moved_c (n := n) d.h d.rel.tr d.rel.lk a1 a3 hnN (fun v hv => (d.rel.sh v hv).1) fun tm' σ1 h1 c1 k1 => ?_)
   rw [xr]
   rw [a4] at c1
   have m1 := d.m.keep (σ' := σ1) fun q w1 w2 => k1 _ _ _ q w1 w2
   have hR1 := d.rows.keep (σ' := σ1) (fun q => k1 _ _ _ q (by decide) (by decide)) (fun q => k1 _ _ _ q (by decide) (by decide))
   have hru1 := k1 _ _ _ hru (by decide) (by decide)
   have trn := tree_core d.cor d.rel.tr
   have lkn := link_core d.cor d.rel.lk
   have ndn := mir_ndp d.m
   have x'n : x'.name = r.name := (show x'.name = x.name from congrArg (·.1) b4).trans a4
   have x'r : x'.ready = r.rdy := (show x'.ready = x.ready from congrArg (·.2.2.2) b4).trans xr
   have eW : wokenR up r = { r with rdy := up } := if_pos ⟨hh, ht⟩
   rw [eW] at hq
   have bb : ((r.rdy != up) != (r.rdy != up)) = false := bne_self_eq_false ..
   by_cases hc : r.rdy = up
   · have bs : (r.rdy != up) = false := by rw [hc]; exact bne_self_eq_false ..
     refine Wl (by kernel_rfl) ?_
     refine Wc (WS.ite (WT.bool (WA.or (PT.use (PT.cmp1 rfl PL PL PC.neB) ?_))))
     refine if_pf ‹_› ?_
     refine WA.or (WT.cmp1 rfl (WE.callP (by kernel_rfl) g_isinstance (Callee.con rfl) (Po PL (Po (PE.globalA (by kernel_rfl) g_bool) PN)) rfl ?_))
     refine WCall.isinstance KindOf.bool k_bool_bool ?_
     refine WE.callP (by kernel_rfl) g_isinstance (Callee.con rfl) (Po PL (Po (PE.globalA (by kernel_rfl) g_bool) PN)) rfl ?_
     refine WCall.isinstance KindOf.bool k_bool_bool ?_
     refine WC.neB ?_
     refine Wb (if_pf (by decide) ?_)
     refine WA.or_nil (if_ff (Wn (WSs.skipP (PT.boolop (PA.andT (PT.plain (fun _ _ => rfl) (Px PL ‹_› ‹_›)) rfl (PA.andT (PT.not (PT.plain (fun _ _ => rfl) (Px PL ‹_› ‹_›))) rfl (PA.andF (PT.cmp1 rfl (Px PL ‹_› ‹_›) PL PC.neB) ‹_›)))) rfl ?_)))
     refine WSs.retP PE.bool ?_
     refine hq tm' tn σ1 ?_ k1.kpw
     have er : ({ r with rdy := up } : Row5) = r := by rw [<- hc]
     cases up with
     | true => exact d.chg gok_wake hk hh ht h1 m1 c1 (by rw [<- x'n]; exact chg_idle trn lkn d.h.an ndn b1 b3 (x'r.trans hc)) (by rw [er, set_same hk]; exact hR1)
     | false => exact d.chg gok_rest hk hh ht h1 m1 c1 (by rw [<- x'n]; exact chg_idle trn lkn d.h.an ndn b1 b3 (x'r.trans hc)) (by rw [er, set_same hk]; exact hR1)
   · have bs : (r.rdy != up) = true := bne_iff_ne.mpr hc
     have nN' : x'.name ∉ tn.map (·.name) := by rw [core_names d.cor, x'n, <- a4]; exact hnN
     have zl' := core_lens d.cor fun v hv => (d.rel.sh v hv).1
     refine Wl (by kernel_rfl) ?_
     refine Wc (WS.ite (WT.bool (WA.or (PT.use (PT.cmp1 rfl PL PL PC.neB) ?_))))
     refine if_pf ‹_› ?_
     refine WA.or (WT.cmp1 rfl (WE.callP (by kernel_rfl) g_isinstance (Callee.con rfl) (Po PL (Po (PE.globalA (by kernel_rfl) g_bool) PN)) rfl ?_))
     refine WCall.isinstance KindOf.bool k_bool_bool ?_
     refine WE.callP (by kernel_rfl) g_isinstance (Callee.con rfl) (Po PL (Po (PE.globalA (by kernel_rfl) g_bool) PN)) rfl ?_
     refine WCall.isinstance KindOf.bool k_bool_bool ?_
     refine WC.neB ?_
     refine Wb (if_pf (by decide) ?_)
     refine WA.or_nil (if_ff (Wn (WSs.thenP (PT.boolop (PA.andT (PT.plain (fun _ _ => rfl) (Px PL ‹_› ‹_›)) rfl (PA.andT (PT.not (PT.plain (fun _ _ => rfl) (Px PL ‹_› ‹_›))) rfl (PA.andT (PT.cmp1 rfl (Px PL ‹_› ‹_›) PL PC.neB) ‹_› PA.andN)))) rfl ?_)))
     refine Wc (WS.expr (fun _ _ _ => rfl) (WE.cp g_law_stirred fn_law_stirred (Po PL (Po PL (Po (Px PL ‹_› ‹_›) (Po PL PN)))) ?_))
     rw [<- x'n]
     cases up with
     | true =>
      refine Wf (stirUp_c m1 trn lkn d.h.an hR1 (Nat.le_trans ‹_› (by decide)) d.abv b1 b3 nN' (by rw [x'r]; cases q : r.rdy <;> first | rfl | exact absurd q hc) zl' fun tn' σ2 m2 c2 k2 => ?_)
      rw [x'n] at c2
      have h2 := h1.kpt m1 k2
      have no : ∀ {v : Nat}, v < 20 -> v ∉ tn.map (·.g) := fun hv hm => by
       refine eEA (Mm hm) fun y hy ey => ?_
       have := d.m.gg y hy
       omega
      have hru2 := k2 _ _ _ hru1 (no (by decide))
      have hR2 := hR1.keep (σ' := σ2) (fun q => k2 _ _ _ q (no (by decide))) (fun q => k2 _ _ _ q (no (by decide)))
      refine eA4 (mark5 { r with rdy := true } h2 m2 hR2 hu hru2) fun h3 m3 hR3 k3 _ => ?_
      refine Wc (WS.setItem (fun _ _ _ => rfl) (WE.lo ?_))
      refine WE.lo ?_
      refine WE.int (WPut.list hru2 (by decide) (by simp) (by simp) ?_)
      refine Wn (WSs.retP PE.bool ?_)
      have kk := (k1.kpw.trans (KpT.kpw m1 k2)).trans k3
      have d3 := d.chg gok_wake hk hh ht h3 m3 c1 c2 hR3
      unfold rowW at d3 kk
      dsimp only at d3 kk
      rw [hh, ht] at d3 kk hq
      exact hq tm' tn' _ d3 kk
     | false =>
      refine Wf (stirDown_c m1 trn lkn d.h.an hR1 (Nat.le_trans ‹_› (by decide)) d.abv b1 b3 nN' (by rw [x'r]; cases q : r.rdy <;> first | rfl | exact absurd q hc) zl' fun tn' σ2 m2 c2 k2 => ?_)
      rw [x'n] at c2
      have h2 := h1.kpt m1 k2
      have no : ∀ {v : Nat}, v < 20 -> v ∉ tn.map (·.g) := fun hv hm => by
       refine eEA (Mm hm) fun y hy ey => ?_
       have := d.m.gg y hy
       omega
      have hru2 := k2 _ _ _ hru1 (no (by decide))
      have hR2 := hR1.keep (σ' := σ2) (fun q => k2 _ _ _ q (no (by decide))) (fun q => k2 _ _ _ q (no (by decide)))
      refine eA4 (mark5 { r with rdy := false } h2 m2 hR2 hu hru2) fun h3 m3 hR3 k3 _ => ?_
      refine Wc (WS.setItem (fun _ _ _ => rfl) (WE.lo ?_))
      refine WE.lo ?_
      refine WE.int (WPut.list hru2 (by decide) (by simp) (by simp) ?_)
      refine Wn (WSs.retP PE.bool ?_)
      have kk := (k1.kpw.trans (KpT.kpw m1 k2)).trans k3
      have d3 := d.chg gok_rest hk hh ht h3 m3 c1 c2 hR3
      unfold rowW at d3 kk
      dsimp only at d3 kk
      rw [hh, ht] at d3 kk hq
      exact hq tm' tn' _ d3 kk
theorem hdeal_c {H dw da : Nat} {tm : List Team} {ab : List (Str × Str)} (h : HouseD σ H dw da tm ab) (tr : Tree tm ab) (lk : Link tm ab fun _ => False) (hs : ShT tm) (hz : tm.length <= 100000)
 (hq : ∀ D p tm' σ', HouseD σ' H dw da tm' ab -> KpT (tm.map (·.g)) σ σ' -> σ' D = some (9, .list (p.map .str)) -> Step tm p tm' -> Same tm tm' -> Link tm' ab (fun _ => False) -> ShT tm' -> Q (.ref D) σ') : WFn (cx w mean mg mb) ⟨n + 4, true, sc⟩ m_House_deal [.ref H] ρ Q X σ := by
 refine eEA tr.root fun t ht _ => ?_
 cases ha : anyR t.l with
 | false => exact deal_noneT h tr hs ht ha fun D σ' h' k' hD => hq D [] tm σ' h' k' hD (iEA t ht (.inl (iA2 ha rfl rfl))) (Same.refl tm) lk hs
 | true => exact deal_cT h tr lk hs ht ha hz fun D p tm' σ' h' k' hD dl sm lk' hs' => hq D p tm' σ' h' k' hD (iEA t ht (.inr ⟨ha, dl⟩)) sm lk' hs'
theorem deal_rdy {tm tm' : List Team} {k : Nat} {p : List Str} (d : Deal tm k p tm') : ∀ (i : Nat) (t' : Team) (j : Nat) (x' : Shr), tm'[i]? = some t' -> t'.l[j]? = some x' -> ∃ t x, tm[i]? = some t /\ t.l[j]? = some x /\ x'.name = x.name /\ x'.ready = x.ready := by
 have one : ∀ {tm : List Team} {k m : Nat} {t : Team} {x : Shr}, tm[k]? = some t -> t.l[m]? = some x -> ∀ (i : Nat) (t' : Team) (j : Nat) (x' : Shr), (tm.set k (dealtT t m x))[i]? = some t' -> t'.l[j]? = some x' -> ∃ t x, tm[i]? = some t /\ t.l[j]? = some x /\ x'.name = x.name /\ x'.ready = x.ready := fun {tm k m t x} hk hm i t' j x' h1 h2 => by
  by_cases e : k = i
  · subst e
    rw [List.getElem?_set_self (Gs hk).1] at h1
    cases h1
    have h2 : (t.l.set m (dealt x))[j]? = some x' := h2
    by_cases e2 : m = j
    · subst e2
      rw [List.getElem?_set_self (Gs hm).1] at h2
      cases h2
      exact (iEEAAA t x hk hm rfl rfl)
    · rw [List.getElem?_set_ne e2] at h2
      exact (iEEAAA t x' hk h2 rfl rfl)
  · rw [List.getElem?_set_ne e] at h1
    exact (iEEAAA t' x' h1 h2 rfl rfl)
 induction d with
 | hand h1 h2 _ _ => exact one h1 h2
 | team h1 h2 _ _ _ _ ih =>
  intro i t' j x' a1 a2
  refine eEEAAA (ih i t' j x' a1 a2) fun t0 x0 b1 b2 b3 b4 => ?_
  refine eEEAAA (one h1 h2 i t0 j x0 b1 b2) fun t1 x1 c1 c2 c3 c4 => ?_
  exact (iEEAAA t1 x1 c1 c2 (b3.trans c3) (b4.trans c4))
theorem step_rdy {tm tm' : List Team} {p : List Str} (d : Step tm p tm') : ∀ (i : Nat) (t' : Team) (j : Nat) (x' : Shr), tm'[i]? = some t' -> t'.l[j]? = some x' -> ∃ t x, tm[i]? = some t /\ t.l[j]? = some x /\ x'.name = x.name /\ x'.ready = x.ready := by
 refine eEA d fun t ht z1' => ?_; clear d; obtain ⟨_, _, e⟩ | ⟨_, dl⟩ := z1'
 · rw [e]; exact fun i t' j x' a1 a2 => (iEEAAA t' x' a1 a2 rfl rfl)
 · exact deal_rdy dl
theorem core_shT {tm tn : List Team} (hc : tn.map coreT = tm.map coreT) (h : ShT tm) : ShT tn := fun u hu => by
 obtain ⟨k, hk⟩ := Mi hu
 refine eEA (coreT_at hc.symm hk) fun t b1 b2 => ?_
 obtain ⟨h1, h2⟩ := h t (Mg b1)
 have b3 : t.l.map core = u.l.map core := congrArg (·.2.2) b2
 have := congrArg List.length b3
 rw [List.length_map, List.length_map] at this
 refine ⟨by rw [<- this]; exact h1, fun x hx => ?_⟩
 obtain ⟨j, hj⟩ := Mi hx
 refine eEA (core_at b3 hj) fun x' c1 c2 => ?_
 rw [<- show x'.share = x.share from congrArg (·.2.1) c2]
 exact h2 x' (Mg c1)
/-- what the law holds of a deal -/
def Held10 (σ : Hp) (v : MV) : Prop := ∃ (u L L2 : Nat) (p : List Str), v = .ref u /\ σ u = some (8, .tuple [.ref L, .ref L2]) /\ σ L = some (9, .list (p.map .str)) /\ σ L2 = some (9, .list (p.map .str))
theorem Held10.keep {σ σ' : Hp} {v : MV} (h : Held10 σ v) (k8 : ∀ {a o}, σ a = some (8, o) -> σ' a = some (8, o)) (k9 : ∀ {a o}, σ a = some (9, o) -> σ' a = some (9, o)) : Held10 σ' v := by
 refine eEEEEAAA h fun u L L2 p h1 h2 h3 h4 => ?_; clear h
 exact (iEEEEAAA u L L2 p h1 (k8 h2) (k9 h3) (k9 h4))
def KpD (σ σ' : Hp) : Prop := ∀ a t o, σ a = some (t, o) -> t ≠ 1 -> t ≠ 2 -> t ≠ 5 -> t ≠ 7 -> t < 20 -> σ' a = some (t, o)
theorem strs_self {c : Cx} {σ : Hp} : ∀ p : List Str, EqVs c σ 0 (p.map .str) (p.map .str)
 | [] => .nil
 | x :: p => .cons (EqV.strT rfl) (strs_self p)
theorem dealt_c {s : Int} {H dw da dm B N Hd : Nat} {ts : List Nat} {tm tn : List Team} {ab : List (Str × Str)} {R : List Row5} {vs : List MV} (d : Rd10 s σ H dw da dm B ts N tm tn ab R) (hN : N <= 500) (hHd : σ Hd = some (5, .list vs)) (vl : vs.length <= 100000)
 (hq : ∀ tm' tn' v σ', Rd10 s σ' H dw da dm B ts N tm' tn' ab R -> σ' Hd = some (5, .list (vs ++ [v])) -> Held10 σ' v -> KpD σ σ' -> Q (.bool true) σ') : WFn (cx w mean mg mb) ⟨n + 5, true, sc⟩ a_law_dealt [.ref H, .ref dm, .ref Hd] ρ Q X σ := by
 have trn := tree_core d.cor d.rel.tr
 have lkn := link_core d.cor d.rel.lk
 have hsn := core_shT d.cor d.rel.sh
 have nln : tn.length <= 500 := by
  have := congrArg List.length d.cor
  rw [List.length_map, List.length_map] at this
  rw [this]; exact Nat.le_trans d.bd.tl hN
 refine eEA trn.root fun t ht etop => ?_
 have hmt := Mg ht
 have no : ∀ {v : Nat}, v < 20 ∨ 96 <= v -> v ∉ tn.map (·.g) := fun hv hm => by
  refine eEA (Mm hm) fun y hy ey => ?_
  have := d.m.gg y hy
  omega
 refine WFn.fn3 (p1 := "_law_house") (p2 := "_law_wheels") (p3 := "_law_held") (FnAt.of3 (rfl : (Mine.hd.heap_39 w.params).lookup a_law_dealt = _) (by kernel_rfl) (fun _ _ _ => rfl) (by kernel_rfl)) ?_
 refine Wc (WS.assign (fun _ _ _ => rfl) (WE.list 9 ?_))
 refine WEs.nil (⟨by simp, fun F hF => ?_⟩)
 have m1 := d.m.keep (σ' := σ.put F 9 (.list [])) fun q _ _ => Hp.new hF.none q
 have k1 : KpT (tn.map (·.g)) σ (σ.put F 9 (.list [])) := fun a t' o q _ => Hp.new hF.none q
 have f1 : (σ.put F 9 (.list [])) F = some (9, .list []) := Hp.self
 have nF : σ F = Option.none := hF.none
 generalize σ.put F 9 (.list []) = σ1 at m1 k1 f1 ⊢
 clear hF
 refine Wl (by kernel_rfl) ?_
 refine WSs.assignP (fun _ _ _ => rfl) PE.str (by kernel_rfl) ?_
 refine WSs.splitO (fun ρ' σ' => (∃ tn1 pre, MirD σ' dm tn1 /\ KpT (tn.map (·.g)) σ σ' /\ Same tn tn1 /\ Step tn pre tn1 /\ σ' F = some (9, .list (pre.map .str))) /\ ρ' "_law_house" = some (.ref H) /\ ρ' "_law_held" = some (.ref Hd) /\ ρ' "_law_due" = some (.ref F)) ?_ ?_
 · intro KS hKS
   refine WS.whileO (fun m ρ' σ' => ∃ tn1 pre, MirD σ' dm tn1 /\ KpT (tn.map (·.g)) σ σ' /\ Same tn tn1 /\ Link tn1 ab (fun _ => False) /\ ShT tn1 /\ σ' F = some (9, .list (pre.map .str)) /\ pre.length <= 100000 /\ ρ' "_law_wheels" = some (.ref dm) /\ ρ' "_law_due" = some (.ref F) /\ ρ' "_law_house" = some (.ref H) /\ ρ' "_law_held" = some (.ref Hd) /\
    ((∃ (k : Nat) (u : Team), tn1[k]? = some u /\ (anyR u.l = true ∨ (k = 0 /\ tn1 = tn /\ pre = [])) /\ ρ' "_law_at" = some (.str u.name) /\ m = tn.length - k /\ pre.length <= k /\ (anyR u.l = true -> anyR t.l = true) /\ ∀ p tn', Deal tn1 k p tn' -> Deal tn 0 (pre ++ p) tn') ∨ ∃ v, ρ' "_law_at" = some v /\ (v = .none ∨ ∃ nm, v = .str nm /\ nm ∉ tn.map (·.name)) /\ Step tn pre tn1)) tn.length (iE2 tn ([]) (iA11 m1 k1 (Same.refl tn) lkn hsn f1 (Nat.zero_le _) (by walk_at "lk") (by walk_at "lk") (by walk_at "lk") (by walk_at "lk") (.inl (iE2 0 t (iA6 ht (.inr (iA2 rfl rfl rfl)) (by rw [etop]; walk_at "lk") rfl (Nat.zero_le _) (fun q => q) (fun p tm' d => d)))))) ?_
   rintro m ρ' σ' ⟨tn1, pre, hh, kp, sm, lk1, hs1, hF, hpl, r0, r1, r2, r3, hor⟩
   intro KL hKL hKB hKR
   have hd := hh.dic
   have tr1 := trn.same sm
   rcases hor with ⟨k, u, hu, ar, r4, hm, hpk, hat, hcont⟩ | ⟨v, r4, hv, hdone⟩
   · have hmu := Mg hu
     have hgu := getK_mir hh hmu
     have hwu := hh.whl u hmu
     have hWu : σ' u.W = some (u.g, .inst a_Wheel [("past", .int u.past), ("sharers", .ref u.d)]) := hwu.whl
     have hgg := hh.gg u hmu
     have hkl : k < tn.length := by rw [<- sm.len]; exact (Gs hu).1
     cases har : anyR u.l with
     | false =>
      refine eA2 (ar.resolve_left (by rw [har]; exact nofun)) fun k0 e1 e2 => ?_
      subst k0; subst e1; subst e2
      have etu : u = t := Oi (hu.symm.trans ht)
      refine WT.cmp1 rfl (WE.lo ?_)
      refine WE.lo ?_
      refine WC.inS_t ‹_› ‹_› ?_
      refine Wb (if_tt (Wc (WS.assign (fun _ _ _ => rfl) (WE.mp (PE.sub PL PL (PI.sdict (fun _ _ => rfl) ‹_› ‹_›)) ‹_› ms_Wheel_turn PN ?_))))
      refine Wf (turn_none_c hwu (hs1 u hmu).1 (pick_no har) fun σ2 h2 o2 => ?_)
      have hh2 := hh.one (t' := u) hu rfl rfl rfl h2 o2
      rw [set_same hu] at hh2
      refine Wl (by kernel_rfl) ?_
      refine Wc (WS.ite (WT.cmp1 rfl (WE.lo ?_)))
      refine WE.none (WC.isNotNN ?_)
      refine Wb (if_ff (Wn (Wn ?_)))
      exact hKL _ _ (0) (by omega) (iE2 tn1 ([]) (iA11 hh2 (fun a t' o q m1 => o2.at (kp a t' o q m1) fun e => m1 (e ▸ gs_mem sm hu)) sm lk1 hs1 (o2.at hF (om_lo ‹_› (by first | assumption | decide))) (Nat.zero_le _) (by walk_at "lk") (by walk_at "lk") (by walk_at "lk") (by walk_at "lk") (.inr (iEAA (.none) (by walk_at "lk") (.inl rfl) (iEA u hu (.inl (iA2 har rfl rfl)))))))
     | true =>
      obtain ⟨x, hx⟩ := Option.isSome_iff_exists.mp (pick_some (l := u.l) (f := Option.none) (.inl har))
      obtain ⟨hxm, hxr⟩ : x ∈ u.l /\ x.ready = true := by
       rcases pick_mem hx with q | q
       · exact q
       · exact nomatch q
      obtain ⟨j, hj⟩ := Mi hxm
      obtain ⟨s0, s1⟩ := (hs1 u hmu).2 x hxm
      refine WT.cmp1 rfl (WE.lo ?_)
      refine WE.lo ?_
      refine WC.inS_t ‹_› ‹_› ?_
      refine Wb (if_tt (Wc (WS.assign (fun _ _ _ => rfl) (WE.mp (PE.sub PL PL (PI.sdict (fun _ _ => rfl) ‹_› ‹_›)) ‹_› ms_Wheel_turn PN ?_))))
      refine Wf (turn_c hwu (hs1 u hmu).1 hj hx s0 s1 fun σ2 h2 o2 => ?_)
      have hh2 := hh.one (t' := dealtT u j x) hu rfl rfl rfl h2 o2
      have k2 : KpT (tn.map (·.g)) σ σ2 := fun a t' o q m1 => o2.at (kp a t' o q m1) fun e => m1 (e ▸ gs_mem sm hu)
      have hF2 := o2.at hF (om_lo ‹_› (by first | assumption | decide))
      have sm2 : Same tn (tn1.set k (dealtT u j x)) := sm.trans (Same.set hu (iA4 rfl rfl rfl rfl (set_nsh (y := dealt x) hj rfl rfl)))
      have lk2 : Link (tn1.set k (dealtT u j x)) ab fun _ => False := link_clock lk1 (y := dealt x) hu hj rfl rfl
      have hs2 : ShT (tn1.set k (dealtT u j x)) := hs1.set (y := dealt x) hu hj rfl
      have hat' := hat har
      refine Wl (by kernel_rfl) ?_
      refine Wc (WS.ite (WT.cmp1 rfl (WE.lo ?_)))
      refine WE.none (WC.isNotNS ?_)
      refine Wb (if_tt (Wc (WS.expr (fun _ _ _ => rfl) (WE.method (fun _ _ => rfl) rfl rfl rfl (WE.lo ?_)))))
      refine WM.listAppend hF2 ?_
      refine And.intro (Callee.con rfl) (PEs.use (Po PL PN) ?_)
      refine WCall.append hF2 (by rw [List.length_map]; omega) ?_
      have hh3 : MirD (σ2.put F 9 (.list (pre.map .str ++ [.str x.name]))) dm (tn1.set k (dealtT u j x)) := ⟨Hp.tag hF2 (by decide) hh2.dic, fun v hv => (hh2.whl v hv).keep ⟨fun a o q => Hp.tag hF2 (by have := hh2.gg v hv; omega) q⟩, hh2.tn, hh2.tg, hh2.gg⟩
      have hF3 : (σ2.put F 9 (.list (pre.map .str ++ [.str x.name]))) F = some (9, .list ((pre ++ [x.name]).map .str)) := by rw [List.map_append]; exact Hp.self
      have k3 : KpT (tn.map (·.g)) σ (σ2.put F 9 (.list (pre.map .str ++ [.str x.name]))) := fun a t' o q m1 => Hp.ne (fun e => by rw [e, nF] at q; exact nomatch q) (k2 a t' o q m1)
      generalize σ2.put F 9 (.list (pre.map .str ++ [.str x.name])) = σ3 at hh3 hF3 k3 ⊢
      refine Wn (Wn ?_)
      by_cases hin : x.name ∈ tn1.map (·.name)
      · refine eEA (Mm hin) fun v hv ev => ?_
        obtain ⟨k', hk'⟩ := Mi hv
        have hab := tr1.mem k u j x hu hj
        have kpos : k < k' := by
         have : 0 < k' := Nat.pos_of_ne_zero fun q => by
          subst q
          refine eEA tr1.root fun t2 e1 e2 => ?_
          have : v = t2 := Oi (hk'.symm.trans e1)
          subst this
          exact tr1.top (Mn (iEA _ hab (by rw [<- ev, e2])))
         refine eEEEEAAAA (tr1.up k' v hk' this) fun k5 u5 j5 y5 lt5 hu5 _ hj5 hy5 => ?_
         have := uniq tr1 d.h.an hh.tn hu hj hu5 hj5 (by rw [hy5, ev])
         omega
        have hk2 : (tn1.set k (dealtT u j x))[k']? = some v := by rw [List.getElem?_set_ne (Nat.ne_of_lt kpos)]; exact hk'
        have hkl' : k' < tn.length := by rw [<- sm.len]; exact (Gs hk').1
        have av : anyR v.l = true := by rw [<- lk1 k' v k u j x hk' (fun q => q) (by rw [ev]; exact hab) hu hj ev.symm]; exact hxr
        exact hKL _ _ (tn.length - k') (by omega) ⟨_, pre ++ [x.name], hh3, k3, sm2, lk2, hs2, hF3, by rw [List.length_append]; simp; omega, by walk_at "lk", by walk_at "lk", by walk_at "lk", by walk_at "lk", .inl ⟨k', v, hk2, .inl av, by rw [ev]; walk_at "lk", rfl, by rw [List.length_append]; simp; omega, fun _ => hat', fun p tm' d => by
         rw [List.append_assoc]
         exact hcont _ _ (Deal.team hu hj hx hk' ev d)⟩⟩
      · refine hKL _ _ (0) (by omega) (iE2 _ (pre ++ [x.name]) (iA11 hh3 k3 sm2 lk2 hs2 hF3 (by rw [List.length_append]; simp; omega) (by walk_at "lk") (by walk_at "lk") (by walk_at "lk") (by walk_at "lk") (.inr (iEAA (.str x.name) (by walk_at "lk") (.inr (iEA x.name rfl (by rw [<- sm.names]; exact hin))) (iEA t ht (.inr ⟨hat', hcont _ _ (Deal.hand hu hj hx hin)⟩))))))
   · rcases hv with rfl | ⟨nm, rfl, hno⟩
     · skip
       refine WT.cmp1 rfl (WE.lo ?_)
       refine WE.lo ?_
       refine WC.inNone hd ?_
       refine Wb (if_ff ?_)
       exact hKS _ _ (iA3 (iE2 tn1 pre (iA4 hh kp sm hdone hF)) (by walk_at "lk") (by walk_at "lk") (by walk_at "lk"))
     · have hg := getK_noteam (tm := tn1) (nm := nm) (by rw [sm.names]; exact hno)
       refine WT.cmp1 rfl (WE.lo ?_)
       refine WE.lo ?_
       refine WC.inS_f ‹_› ‹_› ?_
       refine Wb (if_ff ?_)
       exact hKS _ _ (iA3 (iE2 tn1 pre (iA4 hh kp sm hdone hF)) (by walk_at "lk") (by walk_at "lk") (by walk_at "lk"))
 rintro ρ' σ2 ⟨⟨tn1, pre, m2, k2, smn, stn, hF2⟩, r0, r1, r2⟩
 have h2 := d.h.kpt d.m k2
 have hHd2 := k2 _ _ _ hHd (no (.inl (by decide)))
 have hHo := h2.hou
 refine Wc (WS.expr (fun _ _ _ => rfl) (WE.method (fun _ _ => rfl) rfl rfl rfl (WE.lo ?_)))
 refine WM.listAppend hHd2 ?_
 refine And.intro (Callee.con rfl) (WEs.cons rfl (WE.tuple 8 ?_))
 refine WEs.cons rfl (WE.mp PL ‹_› ms_House_deal PN ?_)
 refine Wf (hdeal_c h2 d.rel.tr d.rel.lk d.rel.sh (Nat.le_trans d.bd.tl (Nat.le_trans ‹_› (by decide))) fun D p tm1 σ3 h3 k3 hD st sm lk3 sh3 => ?_)
 have k3' := KpT.kph h2 k3
 obtain ⟨ep, ec⟩ := step_det st d.cor d.h.ndp (mir_ndp d.m) stn
 subst ep
 have hF3 := k3' _ _ _ hF2 (by decide) (by decide)
 have hHd3 := k3' _ _ _ hHd2 (by decide) (by decide)
 have m3 := m2.keep (σ' := σ3) fun q w1 w2 => k3' _ _ _ q w1 w2
 refine PEs.use (Po PL PN) ?_
 refine ⟨by simp, fun T hT => ?_⟩
 refine WEs.nil (WCall.append (Hp.new hT.none hHd3) (Nat.le_trans ‹_› (by decide)) ?_)
 have kp4 : ∀ {a t o}, σ3 a = some (t, o) -> t ≠ 5 -> ((σ3.put T 8 (.tuple [.ref D, .ref F])).put Hd 5 (.list (vs ++ [.ref T]))) a = some (t, o) := fun q n5 => Hp.tag (Hp.new hT.none hHd3) n5 (Hp.new hT.none q)
 have hT4 : ((σ3.put T 8 (.tuple [.ref D, .ref F])).put Hd 5 (.list (vs ++ [.ref T]))) T = some (8, .tuple [.ref D, .ref F]) := Hp.tag (Hp.new hT.none hHd3) (by decide) Hp.self
 have hHd4 : ((σ3.put T 8 (.tuple [.ref D, .ref F])).put Hd 5 (.list (vs ++ [.ref T]))) Hd = some (5, .list (vs ++ [.ref T])) := Hp.self
 generalize (σ3.put T 8 (.tuple [.ref D, .ref F])).put Hd 5 (.list (vs ++ [.ref T])) = σ4 at kp4 hT4 hHd4 ⊢
 have hD4 := kp4 hD (by decide)
 have hF4 := kp4 hF3 (by decide)
 have vll : ((vs ++ [MV.ref T]).length : Int) = (vs.length : Int) + 1 := by rw [List.length_append]; rfl
 refine Wc (WS.ret (WE.cmp1 rfl (WE.sub (WE.sub (WE.lo ?_)))))
 refine WE.unary (WE.int (WU.neg ?_))
 refine WSub.listNeg (fun _ _ => rfl) (ListAt.own hHd4) (by decide) (by rw [vll]; omega) (by decide) (v := .ref T) (by
  have : ((-1 : Int) + ((vs ++ [MV.ref T]).length : Int)).toNat = vs.length := by rw [vll]; omega
  rw [this, List.getElem?_append_right (Nat.le_refl _), Nat.sub_self]; rfl) ?_
 refine WE.int (WSub.tuple (fun _ _ => rfl) hT4 (by decide) (by decide) rfl ?_)
 refine WE.lo ?_
 refine WC.eq (Nat.succ_le_succ (Nat.zero_le _)) (by decide) (RcV.listT (k := 0) (ListAt.own hD4) (ListAt.own hF4) (strs_self _)) ?_
 refine hq tm1 tn1 (.ref T) σ4 ?_ hHd4 (iEEEEAAA T D F _ rfl hT4 hD4 hF4) fun a t' o q w1 w2 w5 w7 w20 => kp4 (k3' _ _ _ (k2 _ _ _ q (no (.inl w20))) w1 (by omega)) w5
 have kk : ∀ {a t o}, σ a = some (t, o) -> t ≠ 1 -> t ≠ 5 -> t < 20 -> σ4 a = some (t, o) := fun q w1 w5 w20 => kp4 (k3' _ _ _ (k2 _ _ _ q (no (.inl w20))) w1 (by omega)) w5
 refine ⟨h3.keep (fun q => kp4 q (by decide)) (fun q w => kp4 q (by omega)), ⟨kp4 m3.dic (by decide), fun v hv => (m3.whl v hv).keep ⟨fun a o q => kp4 q (by have := m3.gg v hv; omega)⟩, m3.tn, m3.tg, m3.gg⟩, ec, d.rel.same sm lk3, d.rows.keep (fun q => kk q (by decide) (by decide) (by decide)) (fun q => kk q (by decide) (by decide) (by decide)), d.ok, d.rl, d.bd.same sm, fun v hv => ?_, fun k r hk h1 h2 i t' j x' a1 a2 a3 => ?_, d.rt, d.sh⟩
 · obtain ⟨i, hi⟩ := Mi hv
   refine eEA (Mm (gs_mem smn hi)) fun w' hw' e => ?_
   rw [<- e]; exact d.gk w' hw'
 · refine eEEAAA (step_rdy st i t' j x' a1 a2) fun t0 x0 b1 b2 b3 b4 => ?_
   rw [b4]
   exact d.rdy k r hk h1 h2 i t0 j x0 b1 b2 (b3.symm.trans a3)
theorem Lo.del_ne {ρ : Lo} {x y : Str} {v : MV} (h : (y == x) = false) (e : ρ y = some v) : (ρ.del x) y = some v := by
 unfold Lo.del
 rw [if_neg fun q => by subst q; simp at h]
 exact e
def ws3 : List Str := ["twice", "twice", "bad share"]
theorem refused_here_c {s : Int} {H dw da dm B N k u : Nat} {ts : List Nat} {tm tn : List Team} {ab : List (Str × Str)} {R : List Row5} {r : Row5} (d : Rd10 s σ H dw da dm B ts N tm tn ab R) (hk : R[k]? = some r) (hu : ts[k]? = some u) (hh : r.here = true)
 (hq : ∀ σ', Extd σ σ' -> Q (.bool true) σ') : WFn (cx w mean mg mb) ⟨n + 6, true, sc⟩ a_law_refused_here [.ref H, .ref u] ρ Q X σ := by
 have hru := d.row hk hu
 have okn : okN r.name := row_okn d.ok.to4 (to4_at hk)
 have l8 := okn.l8
 refine eE6 (d.place hk hh) fun i t j x t' x' y0' => eA4 y0' fun a1 a2 a3 a4 _ => ?_
 have hm := d.rel.tr.mem i t j x a1 a3
 rw [a4] at hm
 have z0 : [MV.str r.name, .str r.up, .int r.share, .bool r.team, .bool r.rdy, .bool r.here][Int.toNat 0]? = some (.str r.name) := rfl
 have z1 : [MV.str r.name, .str r.up, .int r.share, .bool r.team, .bool r.rdy, .bool r.here][Int.toNat 1]? = some (.str r.up) := rfl
 refine WFn.fn2 (p1 := "_law_house") (p2 := "_law_row") (FnAt.of2 (rfl : (Mine.hd.heap_39 w.params).lookup a_law_refused_here = _) (by kernel_rfl) (fun _ _ => rfl) (by kernel_rfl)) ?_
 refine Wc (WS.assign (fun _ _ _ => rfl) (WE.list 9 ?_))
 refine WEs.nil (⟨by simp, fun F hF => ?_⟩)
 have e1 : Extd σ (σ.put F 9 (.list [])) := fun a p q => Hp.new hF.none q
 have f1 : (σ.put F 9 (.list [])) F = some (9, .list []) := Hp.self
 have nF : σ F = Option.none := hF.none
 generalize σ.put F 9 (.list []) = σ1 at e1 f1 ⊢
 clear hF
 refine Wl (by kernel_rfl) ?_
 refine Wc (WS.for rfl (fun _ _ => rfl) ?_)
 refine WE.callP (by kernel_rfl) g_range (Callee.con rfl) (Po PE.int PN) rfl ?_
 refine WCall.range1 9 fun b hb => ?_
 refine (iEEA _ _ (itR Hp.self (by decide) (by decide)) ?_)
 refine WFor.upToO (fun j ρ' σ' => Extd σ σ' /\ σ' F = some (9, .list ((ws3.take j).map .str)) /\ ρ' "_law_house" = some (.ref H) /\ ρ' "_law_row" = some (.ref u) /\ ρ' "_law_words" = some (.ref F)) ?_ ?_ ?_
 · exact (iA4 (fun a p q => Hp.new hb.none (e1 _ _ q)) (Hp.new hb.none f1) (by walk_at "lk") (by walk_at "lk") (by walk_at "lk"))
 · rintro j ρ' σ2 hj ⟨e2, hF2, r0, r1, r2⟩
   intro KL hKL
   have d2 := d.ext e2
   have hHo := d2.h.hou
   have hru2 := e2 _ _ hru
   have app : ∀ {σ3 : Hp} {ys : List MV}, Extd σ σ3 -> Extd σ (σ3.put F 9 (.list ys)) := fun e a p q => Hp.ne (fun e' => by rw [e', nF] at q; exact nomatch q) (e _ _ q)
   have hj3 : j = 0 ∨ j = 1 ∨ j = 2 := by omega
   rcases hj3 with rfl | rfl | rfl
   · skip
     refine Wl (by kernel_rfl) ?_
     refine Wc (WS.try ?_)
     refine WSs.thenP (PT.cmp1 rfl PL PE.int PC.eqI) (by decide) ?_
     refine Wc (WS.expr (fun _ _ _ => rfl) (WE.mp PL ‹_› ms_House_hand (Po (Px PL ‹_› ‹_›) (Po PE.str (Po PE.int PN))) ?_))
     refine Wf (hand_bad d2.h fun {Q2 ρ2 sc2} => stand_twice d2.h (Nat.le_trans ‹_› (by decide)) okn.le.ascii okn.good hm fun e σ3 e3 => ?_)
     refine ⟨rfl, WH.hitAsA 9 (hand_ShareError (by kernel_rfl)) ref_Twice.sub (by kernel_rfl) fun he => ?_⟩
     have hF3 : (σ3.put e 9 (.exc a_Twice)) F = _ := Hp.new he (e3 _ _ hF2)
     refine Wc (WS.expr (fun _ _ _ => rfl) (WE.method (fun _ _ => rfl) rfl rfl rfl (WE.lo ?_)))
     refine WM.listAppend hF3 ?_
     refine And.intro (Callee.con rfl) (WEs.cons rfl (WE.cp g_law_refusal fn_law_refusal (Po PL PN) ?_))
     refine Wf (ref_Twice.ref Hp.self fun σ4 e4 => ?_)
     have hF4 := e4 _ _ hF3
     refine WEs.nil (WCall.append hF4 (by simp [ws3]) ?_)
     refine Wn (Wn ?_)
     exact hKL _ _ (iA4 (app fun a p q => e4 _ _ (Hp.new he (e3 _ _ (e2 _ _ q)))) Hp.self (Lo.del_ne (by kernel_rfl) (by walk_at "lk")) (Lo.del_ne (by kernel_rfl) (by walk_at "lk")) (Lo.del_ne (by kernel_rfl) (by walk_at "lk")))
   · skip
     refine Wl (by kernel_rfl) ?_
     refine Wc (WS.try ?_)
     refine WSs.elseP (PT.cmp1 rfl PL PE.int PC.eqI) (by decide) ?_
     refine WSs.thenP (PT.cmp1 rfl PL PE.int PC.eqI) (by decide) ?_
     refine Wc (WS.expr (fun _ _ _ => rfl) (WE.mp PL ‹_› ms_House_team (Po (Px PL ‹_› ‹_›) (Po (Px PL ‹_› ‹_›) (Po PE.int PN))) ?_))
     refine Wf (team_bad d2.h fun {Q2 ρ2 sc2} => stand_twice d2.h (Nat.le_trans ‹_› (by decide)) okn.le.ascii okn.good hm fun e σ3 e3 => ?_)
     refine ⟨rfl, WH.hitAsA 9 (hand_ShareError (by kernel_rfl)) ref_Twice.sub (by kernel_rfl) fun he => ?_⟩
     have hF3 : (σ3.put e 9 (.exc a_Twice)) F = _ := Hp.new he (e3 _ _ hF2)
     refine Wc (WS.expr (fun _ _ _ => rfl) (WE.method (fun _ _ => rfl) rfl rfl rfl (WE.lo ?_)))
     refine WM.listAppend hF3 ?_
     refine And.intro (Callee.con rfl) (WEs.cons rfl (WE.cp g_law_refusal fn_law_refusal (Po PL PN) ?_))
     refine Wf (ref_Twice.ref Hp.self fun σ4 e4 => ?_)
     have hF4 := e4 _ _ hF3
     refine WEs.nil (WCall.append hF4 (by simp [ws3]) ?_)
     refine Wn (Wn ?_)
     exact hKL _ _ (iA4 (app fun a p q => e4 _ _ (Hp.new he (e3 _ _ (e2 _ _ q)))) Hp.self (Lo.del_ne (by kernel_rfl) (by walk_at "lk")) (Lo.del_ne (by kernel_rfl) (by walk_at "lk")) (Lo.del_ne (by kernel_rfl) (by walk_at "lk")))
   · skip
     refine Wl (by kernel_rfl) ?_
     refine Wc (WS.try ?_)
     refine WSs.elseP (PT.cmp1 rfl PL PE.int PC.eqI) (by decide) ?_
     refine WSs.elseP (PT.cmp1 rfl PL PE.int PC.eqI) (by decide) ?_
     refine Wc (WS.expr (fun _ _ _ => rfl) (WE.mp PL ‹_› ms_House_reshare (Po (Px PL ‹_› ‹_›) (Po PE.int PN)) ?_))
     rw [<- a4]
     refine Wf (reshare_hbad (n := n + 1) d2.h a1 (by rw [a4]; exact hm) a3 (NoShare.int (by decide)) fun e => ?_)
     refine ⟨rfl, WH.hitAsA 9 (hand_ShareError (by kernel_rfl)) ref_BadShare.sub (by kernel_rfl) fun he => ?_⟩
     have hF3 : (σ2.put e 9 (.exc a_BadShare)) F = _ := Hp.new he hF2
     refine Wc (WS.expr (fun _ _ _ => rfl) (WE.method (fun _ _ => rfl) rfl rfl rfl (WE.lo ?_)))
     refine WM.listAppend hF3 ?_
     refine And.intro (Callee.con rfl) (WEs.cons rfl (WE.cp g_law_refusal fn_law_refusal (Po PL PN) ?_))
     refine Wf (ref_BadShare.ref Hp.self fun σ4 e4 => ?_)
     have hF4 := e4 _ _ hF3
     refine WEs.nil (WCall.append hF4 (by simp [ws3]) ?_)
     refine Wn (Wn ?_)
     exact hKL _ _ (iA4 (app fun a p q => e4 _ _ (Hp.new he (e2 _ _ q))) Hp.self (Lo.del_ne (by kernel_rfl) (by walk_at "lk")) (Lo.del_ne (by kernel_rfl) (by walk_at "lk")) (Lo.del_ne (by kernel_rfl) (by walk_at "lk")))
 · rintro ρ' σ2 ⟨e2, hF2, r0, r1, r2⟩
   refine Wc (WS.ret (WE.cmp1 rfl (WE.lo ?_)))
   refine WE.list 9 ?_
   refine PEs.use (Po PE.str (Po PE.str (Po PE.str PN))) ?_
   refine ⟨by simp, fun G hG => ?_⟩
   refine WC.eq (Nat.succ_le_succ (Nat.zero_le _)) (by decide) (RcV.listT (k := 0) (ListAt.own (Hp.new hG.none hF2)) (ListAt.own Hp.self) (strs_self ws3)) ?_
   exact hq _ fun a p q => Hp.new hG.none (e2 _ _ q)
theorem not_empty_c {s : Int} {H dw da dm B N k : Nat} {ts : List Nat} {tm tn : List Team} {ab : List (Str × Str)} {R : List Row5} {r : Row5} (d : Rd10 s σ H dw da dm B ts N tm tn ab R) (hN : N <= 500) (hk : R[k]? = some r) (hh : r.here = true) (hw : ∃ (m : Nat) (q : Row5), R[m]? = some q /\ q.here = true /\ q.up = r.name)
 (hq : ∀ σ', Extd σ σ' -> Q (.bool true) σ') : WFn (cx w mean mg mb) ⟨n + 6, true, sc⟩ a_law_not_empty [.ref H, .str r.name] ρ Q X σ := by
 refine eEEAA hw fun m q hm hqh hqu => ?_; clear hw
 refine eE6 (d.place hm hqh) fun i t j x t' x' y0' => eA4 y0' fun a1 a2 a3 a4 _ => ?_
 have htn : t.name = r.name := a2.trans hqu
 have hab : (t.name, r.up) ∈ ab := by
  rw [htn]
  exact (d.rel.abm _).mpr (iEEAA k r.to4 (to4_at hk) hh rfl)
 have hHo := d.h.hou
 refine WFn.fn2 (p1 := "_law_house") (p2 := "_law_name") (FnAt.of2 (rfl : (Mine.hd.heap_39 w.params).lookup a_law_not_empty = _) (by kernel_rfl) (fun _ _ => rfl) (by kernel_rfl)) ?_
 refine Wc (WS.try ?_)
 refine Wc (WS.expr (fun _ _ _ => rfl) (WE.mp PL ‹_› ms_House_leave (Po PL PN) ?_))
 rw [<- htn]
 refine Wf (leave_full (n := n + 1) d.h (Mg a1) (Nat.lt_of_le_of_lt (Nat.zero_le _) (Gs a3).1) (Nat.le_trans (d.bd.l t (Mg a1)) (Nat.le_trans ‹_› (by decide))) hab fun e σ3 e3 => ?_)
 refine ⟨rfl, WH.hitAsA 9 (hand_ShareError (by kernel_rfl)) ref_NotEmpty.sub (by kernel_rfl) fun he => ?_⟩
 refine Wc (WS.ret (WE.cmp1 rfl (WE.cp g_law_refusal fn_law_refusal (Po PL PN) ?_)))
 refine Wf (ref_NotEmpty.ref Hp.self fun σ4 e4 => ?_)
 refine WE.str (WC.eqS ?_)
 have eb : (("not empty" : Str) == "not empty") = true := by kernel_rfl
 rw [eb]
 exact hq σ4 fun a p q => e4 _ _ (Hp.new he (e3 _ _ q))
def dec (σ : Hp) : MV -> Option Row5
 | .ref t => match σ t with
  | some (_, .list [.str a, .str b, .int c, .bool d, .bool e, .bool f]) => some ⟨a, b, c, d, e, f⟩
  | _ => Option.none
 | _ => Option.none
theorem dec_at {σ : Hp} {t : Nat} {r : Row5} (h : RowAt σ t r) : dec σ (.ref t) = some r := by
 have h' : σ t = some (7, .list [.str r.name, .str r.up, .int r.share, .bool r.team, .bool r.rdy, .bool r.here]) := h
 simp only [dec, h']
theorem filt5 {σ : Hp} {ts : List Nat} {R : List Row5} (h : All2 (RowAt σ) ts R) (q : Row5 -> Bool) : ∃ us : List Nat, ((ts.map MV.ref).filter fun v => (dec σ v).any q) = us.map .ref /\ All2 (RowAt σ) us (R.filter q) := by
 induction h with
 | nil => exact (iEA ([]) rfl (.nil))
 | @cons t r l m e _ ih =>
  refine eEA ih fun us e1 e2 => ?_; clear ih
  rw [List.map_cons, List.filter_cons, List.filter_cons, dec_at e]
  show ∃ us : List Nat, (if q r = true then _ else _) = _ /\ _
  cases hq : q r with
  | true => exact (iEA (t :: us) (by rw [if_pos rfl, e1]; rfl) (by rw [if_pos rfl]; exact .cons e e2))
  | false => exact (iEA us (by rw [if_neg (by decide), e1]) (by rw [if_neg (by decide)]; exact e2))
/-- a comprehension that picks rows -/
theorem pick5 {i : Ix} {ρ : Lo} {x : Str} {t elt : Expr} {B : Nat} {R : List Row5} {ts : List Nat} {σ : Hp} (hR : Rows5 σ B R ts) (q : Row5 -> Bool) {Qc : List MV -> Hp -> Prop}
 (h : ∀ (u : Nat) (r : Row5), σ u = some (7, .list [.str r.name, .str r.up, .int r.share, .bool r.team, .bool r.rdy, .bool r.here]) -> ∀ K : Bool -> Hp -> Prop, K (q r) σ -> WT (cx w mean mg mb) i t (ρ.put x (.ref u)) K noX σ)
 (h' : ∀ (u : Nat), ∀ K : MV -> Hp -> Prop, K (.ref u) σ -> WE (cx w mean mg mb) i elt (ρ.put x (.ref u)) K noX σ)
 (hq : ∀ us, All2 (RowAt σ) us (R.filter q) -> Qc (us.map .ref) σ) : WComp (cx w mean mg mb) i x elt [t] (fun σ => ListAt σ B (ts.map .ref)) Qc ρ (ts.map .ref) [] σ := by
 refine eEA (filt5 hR.row q) fun us e1 e2 => ?_
 refine WComp.filter (ListAt.own hR.lst) (p := fun v => (dec σ v).any q) (f := id) (fun v hv K hK => ?_) (fun v hv hp K hK => ?_) (by rw [e1, List.map_id]; exact hq us e2)
 · refine eEA (Mm hv) fun u hu z1' => ?_; subst z1'
   obtain ⟨j, hj⟩ := Mi hu
   refine eEA (hR.row.get hj) fun r _ e => ?_
   refine h u r e K ?_
   rw [dec_at e] at hK
   exact hK
 · refine eEA (Mm hv) fun u hu z1' => ?_; subst z1'
   exact h' u K hK
theorem anyF {R : List Row5} {q : Row5 -> Bool} {us : List Nat} {σ : Hp} (h : All2 (RowAt σ) us (R.filter q)) : (us = [] ↔ R.any q = false) := by
 have hl := h.length
 constructor
 · intro e
   subst e
   have : R.filter q = [] := List.eq_nil_of_length_eq_zero hl.symm
   rw [List.any_eq_false]
   exact List.filter_eq_nil_iff.mp this
 · intro e
   rw [List.any_eq_false] at e
   rw [List.filter_eq_nil_iff.mpr e] at hl
   exact List.eq_nil_of_length_eq_zero hl
/-- a list of refs compared with the empty list -/
theorem eqNil {c : Cx} {σ : Hp} {a b t t' : Nat} {us : List Nat} (ha : σ a = some (t, .list (us.map .ref))) (hb : σ b = some (t', .list [])) : RcV c σ 2 (.ref a) (.ref b) us.isEmpty /\ RnV c σ 2 (.ref a) (.ref b) (!us.isEmpty) := by
 cases us with
 | nil => exact ⟨RcV.listT (k := 1) (ListAt.own ha) (ListAt.own hb) .nil, RnV.listT (k := 1) (ListAt.own ha) (ListAt.own hb) .nil⟩
 | cons x xs =>
  have h1 : RcV c σ 1 (.ref a) (.ref b) false := RcV.listF (ListAt.own ha) (ListAt.own hb) (by simp)
  have h2 : RnV c σ 1 (.ref a) (.ref b) true := RnV.listF (ListAt.own ha) (ListAt.own hb) (by simp)
  exact ⟨fun f ρ fr z s A v u R iv iu hu => h1 f ρ fr z s A v u R iv iu (by omega), fun f ρ fr z s A v u R iv iu hu => h2 f ρ fr z s A v u R iv iu (by omega)⟩
theorem empt {R : List Row5} {q : Row5 -> Bool} {us : List Nat} {σ : Hp} (h : All2 (RowAt σ) us (R.filter q)) : us.isEmpty = !R.any q := by
 cases hq : R.any q with
 | false => rw [(anyF h).mpr hq]; rfl
 | true =>
  cases us with
  | nil => have := (anyF h).mp rfl; rw [hq] at this; exact nomatch this
  | cons _ _ => rfl
def RdyM (tm : List Team) (R : List Row5) : Prop := ∀ (k : Nat) (r : Row5), R[k]? = some r -> r.here = true -> r.team = false -> ∀ t ∈ tm, ∀ x ∈ t.l, x.name = r.name -> x.ready = r.rdy
theorem Rd10.rdyM {s : Int} {σ : Hp} {H dw da dm B N : Nat} {ts : List Nat} {tm tn : List Team} {ab : List (Str × Str)} {R : List Row5} (d : Rd10 s σ H dw da dm B ts N tm tn ab R) : RdyM tm R := fun k r hk h1 h2 t ht x hx e => by
 obtain ⟨i, hi⟩ := Mi ht
 obtain ⟨j, hj⟩ := Mi hx
 exact d.rdy k r hk h1 h2 i t j x hi hj e
theorem RdyM.at {tm : List Team} {R : List Row5} (h : RdyM tm R) : ∀ (k : Nat) (r : Row5), R[k]? = some r -> r.here = true -> r.team = false -> ∀ (i : Nat) (t : Team) (j : Nat) (x : Shr), tm[i]? = some t -> t.l[j]? = some x -> x.name = r.name -> x.ready = r.rdy := fun k r hk h1 h2 i t j x hi hj e => h k r hk h1 h2 t (Mg hi) x (Mg hj) e
theorem set5 {R : List Row5} {k : Nat} {r y : Row5} (hk : R[k]? = some r) {m : Nat} {q : Row5} (h : (R.set k y)[m]? = some q) : (m = k /\ q = y) ∨ (m ≠ k /\ R[m]? = some q) := by
 by_cases e : k = m
 · subst e
   rw [List.getElem?_set_self (Gs hk).1] at h
   exact .inl ⟨rfl, (Oi h).symm⟩
 · rw [List.getElem?_set_ne e] at h
   exact .inr ⟨Ne.symm e, h⟩
/-- who is not meant by a change keeps its readiness -/
theorem chg_other {g : Int -> Shr -> Shr} {nm : Str} {b : Bool} {tm tm1 : List Team} {ab : List (Str × Str)} (c : Chg g nm b tm tm1 ab) {t1 : Team} {x1 : Shr} (h1 : t1 ∈ tm1) (h2 : x1 ∈ t1.l) (hn : x1.name ∉ tm.map (·.name)) (hne : x1.name ≠ nm) : ∃ t ∈ tm, ∃ x ∈ t.l, x.name = x1.name /\ x.ready = x1.ready := by
 obtain ⟨i, hi⟩ := Mi h1
 obtain ⟨j, hj⟩ := Mi h2
 refine eEAA (c.s.back hi) fun t0 b1 _ b3 => ?_
 refine eEAA (rows_at b3.symm hj) fun x0 c1 c2 _ => ?_
 refine eEEAAA (c.hd i t0 j x0 b1 c1 (by rw [c2]; exact hn)) fun t2 y2 e1 e2 e3 e4 => ?_
 have : t2 = t1 := Oi (e1.symm.trans hi)
 subst this
 have : y2 = x1 := Oi (e2.symm.trans hj)
 subst this
 refine ⟨t0, Mg b1, x0, Mg c1, c2, ?_⟩
 rw [e4]
 show x0.ready = if x0.name = nm then b else x0.ready
 rw [if_neg (by rw [c2]; exact hne)]
theorem core_set {tm tn : List Team} (hc : tn.map coreT = tm.map coreT) {i : Nat} {y y' : Team} (e : coreT y' = coreT y) : (tn.set i y').map coreT = (tm.set i y).map coreT := by rw [List.map_set, List.map_set, hc, e]
theorem ent_det {tm tn tm' tn' : List Team} {up nm : Str} {share : Int} (hc : tn.map coreT = tm.map coreT) (nd : (tm.map (·.name)).Nodup) (h : Ent tm up nm share tm') (k : Ent tn up nm share tn') : tn'.map coreT = tm'.map coreT := by
 refine eEEEAA h fun i t a h1 h2 z1' => ?_; clear h; subst z1'
 refine eEEEAA k fun i' t' a' k1 k2 z1' => ?_; clear k; subst z1'
 refine eEA (coreT_at hc h1) fun t2 b1 b2 => ?_
 have e2 : t2.name = t.name := congrArg (·.1) b2
 have : i' = i := nodup_at (f := fun v : Team => v.name) (by rw [core_names hc]; exact nd) k1 b1 (by rw [k2, e2, h2])
 subst this
 have : t2 = t' := Oi (b1.symm.trans k1)
 subst this
 refine core_set hc ?_
 have e3 : t2.past = t.past := congrArg (·.2.1) b2
 have e4 : t2.l.map core = t.l.map core := congrArg (·.2.2) b2
 show (t2.name, t2.past, (t2.l ++ [_]).map core) = (t.name, t.past, (t.l ++ [_]).map core)
 rw [List.map_append, List.map_append, e2, e3, e4]
 rfl
theorem erase_core {tm tn : List Team} (hc : tn.map coreT = tm.map coreT) {i j : Nat} {t t' : Team} (b : coreT t' = coreT t) : (tn.set i { t' with l := t'.l.eraseIdx j }).map coreT = (tm.set i { t with l := t.l.eraseIdx j }).map coreT := by
 refine core_set hc ?_
 have e2 : t'.name = t.name := congrArg (·.1) b
 have e3 : t'.past = t.past := congrArg (·.2.1) b
 have e4 : t'.l.map core = t.l.map core := congrArg (·.2.2) b
 have em : ∀ l : List Shr, (l.eraseIdx j).map core = (l.map core).eraseIdx j := fun l => by
  rw [List.eraseIdx_eq_take_drop_succ, List.eraseIdx_eq_take_drop_succ, List.map_append, List.map_take, List.map_drop]
 show (t'.name, t'.past, (t'.l.eraseIdx j).map core) = (t.name, t.past, (t.l.eraseIdx j).map core)
 rw [em, em, e2, e3, e4]
theorem MirD.popT {σ : Hp} {dm : Nat} {tm : List Team} (h : MirD σ dm tm) (nm : Str) : MirD (σ.put dm 2 (.sdict (tents (tm.filter fun u => decide (u.name ≠ nm))))) dm (tm.filter fun u => decide (u.name ≠ nm)) := by
 have sub : (tm.filter fun u => decide (u.name ≠ nm)).Sublist tm := List.filter_sublist
 exact ⟨Hp.self, fun u hu => (h.whl u (sub.subset hu)).keep (Kpt.put h.dic (by have := h.gg u (sub.subset hu); omega)), List.Nodup.sublist (sub.map _) h.tn, List.Nodup.sublist (sub.map _) h.tg, fun u hu => h.gg u (sub.subset hu)⟩
theorem MirD.add {σ : Hp} {dm W d g : Nat} {tm : List Team} {nm : Str} (h : MirD σ dm tm) (hw : WheelD σ W d g 0 []) (hn : nm ∉ tm.map (·.name)) (hg : g ∉ tm.map (·.g)) (g20 : 20 <= g) (g96 : g < 96) : MirD (σ.put dm 2 (.sdict (tents (tm ++ [⟨nm, W, d, g, 0, []⟩])))) dm (tm ++ [⟨nm, W, d, g, 0, []⟩]) := by
 refine ⟨Hp.self, fun u hu => ?_, ?_, ?_, fun u hu => ?_⟩
 · rcases List.mem_append.mp hu with q | q
   · exact (h.whl u q).keep (Kpt.put h.dic (by have := h.gg u q; omega))
   · rw [List.mem_singleton.mp q]
     exact hw.keep (Kpt.put h.dic (by omega))
 · rw [List.map_append]
   exact List.nodup_append.mpr (iA2 h.tn (by simp) (fun a ha b hb e => hn (by have e2 : a = nm := e.trans (List.mem_singleton.mp hb); exact e2 ▸ ha)))
 · rw [List.map_append]
   exact List.nodup_append.mpr (iA2 h.tg (by simp) (fun a ha b hb e => hg (by have e2 : a = g := e.trans (List.mem_singleton.mp hb); exact e2 ▸ ha)))
 · rcases List.mem_append.mp hu with q | q
   · exact h.gg u q
   · rw [List.mem_singleton.mp q]; exact ⟨g20, g96⟩
theorem rdy_ent {tm tm' : List Team} {ab : List (Str × Str)} {R : List Row5} {k : Nat} {r y : Row5} {up : Str} {share : Int} (h : RdyM tm R) (tr : Tree tm ab) (hk : R[k]? = some r) (uq : ∀ (m : Nat) (q : Row5), R[m]? = some q -> q.name = r.name -> m = k) (hn : r.name ∉ ab.map (·.1)) (e : Ent tm up r.name share tm') (yn : y.name = r.name) (yr : y.rdy = false) : RdyM tm' (R.set k y) := fun m q hm h1 h2 t ht x hx ex => by
 refine eEEEAA e fun i t0 a a1 a2 z1' => ?_; clear e; subst z1'
 have old : ∀ t ∈ tm, ∀ x ∈ t.l, x.name ≠ r.name := fun t ht x hx e => by
  obtain ⟨i, hi⟩ := Mi ht
  obtain ⟨j, hj⟩ := Mi hx
  exact hn (Mn (iEA _ (tr.mem i t j x hi hj) e))
 have hx' : (∃ t ∈ tm, x ∈ t.l) ∨ x = ⟨r.name, a, share, 0, false⟩ := by
  rcases mem_set_or ht with rfl | ⟨j, _, hj⟩
  · rcases List.mem_append.mp hx with w | w
    · exact .inl (iEA t0 (Mg a1) w)
    · exact .inr (List.mem_singleton.mp w)
  · exact .inl (iEA t (Mg hj) hx)
 rcases set5 hk hm with ⟨rfl, rfl⟩ | ⟨hne, hq⟩
 · rcases hx' with ⟨t1, w1, w2⟩ | w
   · exact absurd (ex.trans yn) (old t1 w1 x w2)
   · rw [w, yr]
 · rcases hx' with ⟨t1, w1, w2⟩ | w
   · exact h m q hq h1 h2 t1 w1 x w2 ex
   · rw [w] at ex
     exact absurd (uq m q hq ex.symm) hne
/-- how the law stands behind somebody's coming or going, but for two marks in the row -/
structure End10 (s : Int) (σ0 σ : Hp) (H dw da dm B N k u : Nat) (ts : List Nat) (tm tn : List Team) (ab : List (Str × Str)) (R : List Row5) (r y : Row5) : Prop where
 h : HouseD σ H dw da tm ab
 m : MirD σ dm tn
 cor : tn.map coreT = tm.map coreT
 rel : Rel4 tm ab ((R.set k { y with rdy := false, here := !r.here }).map Row5.to4)
 rows : Rows5 σ B (R.set k y) ts
 row : σ u = some (7, .list [.str y.name, .str y.up, .int y.share, .bool y.team, .bool y.rdy, .bool y.here])
 bd : Bd (N + 1) tm ab
 gk : ∀ t ∈ tn, t.g < 21 + (N + 1)
 rdy : RdyM tm (R.set k { y with rdy := false, here := !r.here })
 yn : y.name = r.name
 yh : y.here = r.here
 y0 : 1 <= y.share
 y1 : y.share <= 12
 kp : KpW σ0 σ
theorem End10.done {s : Int} {σ0 σ : Hp} {H dw da dm B N k u : Nat} {ts : List Nat} {tm tn tm0 tn0 : List Team} {ab ab0 : List (Str × Str)} {R : List Row5} {r y : Row5} (d : Rd10 s σ0 H dw da dm B ts N tm0 tn0 ab0 R) (hk : R[k]? = some r) (hu : ts[k]? = some u) (E : End10 s σ0 σ H dw da dm B N k u ts tm tn ab R r y) :
 Rd10 s (σ.put u 7 (.list (rowW { y with rdy := false, here := !r.here }))) H dw da dm B ts (N + 1) tm tn ab (R.set k { y with rdy := false, here := !r.here }) /\ KpW σ0 (σ.put u 7 (.list (rowW { y with rdy := false, here := !r.here }))) := by
 refine eA4 (mark5 { y with rdy := false, here := !r.here } E.h E.m E.rows hu E.row) fun h3 m3 hR3 k3 _ => ?_
 rw [List.set_set] at hR3
 refine ⟨⟨h3, m3, E.cor, E.rel, hR3, ⟨fun m q h => ?_⟩, by rw [List.length_set]; exact d.rl, E.bd, E.gk, E.rdy.at, fun m q h h1 => ?_, fun m q h => ?_⟩, E.kp.trans k3⟩
 · rcases set5 hk h with ⟨rfl, rfl⟩ | ⟨_, h⟩
   · exact E.yn.trans (d.ok.nm m r hk)
   · exact d.ok.nm m q h
 · rcases set5 hk h with ⟨rfl, rfl⟩ | ⟨_, h⟩
   · rfl
   · exact d.rt m q h h1
 · rcases set5 hk h with ⟨rfl, rfl⟩ | ⟨_, h⟩
   · exact ⟨E.y0, E.y1⟩
   · exact d.sh m q h
theorem Rd10.up {s : Int} {σ : Hp} {H dw da dm B N : Nat} {ts : List Nat} {tm tn : List Team} {ab : List (Str × Str)} {R : List Row5} (d : Rd10 s σ H dw da dm B ts N tm tn ab R) : Rd10 s σ H dw da dm B ts (N + 1) tm tn ab R :=
 ⟨d.h, d.m, d.cor, d.rel, d.rows, d.ok, d.rl, d.bd.up (Nat.le_succ _), fun t ht => Nat.lt_succ_of_lt (d.gk t ht), d.rdy, d.rt, d.sh⟩
theorem Rd10.uq {s : Int} {σ : Hp} {H dw da dm B N k : Nat} {ts : List Nat} {tm tn : List Team} {ab : List (Str × Str)} {R : List Row5} {r : Row5} (d : Rd10 s σ H dw da dm B ts N tm tn ab R) (hk : R[k]? = some r) : ∀ (m : Nat) (q : Row5), R[m]? = some q -> q.name = r.name -> m = k := fun m q hm e =>
 row_inj d.ok.to4 (by rw [to4_len]; have := d.rl; exact Nat.le_trans ‹_› (by decide)) (to4_at hm) (to4_at hk) e
theorem hand_no {s : Int} {σ : Hp} {H dw da dm B N k : Nat} {ts : List Nat} {tm tn : List Team} {ab : List (Str × Str)} {R : List Row5} {r : Row5} (d : Rd10 s σ H dw da dm B ts N tm tn ab R) (hk : R[k]? = some r) (ht : r.team = false) : r.name ∉ tm.map (·.name) := by
 have := team_of d.rel d.ok.to4 (by rw [to4_len]; have := d.rl; exact Nat.le_trans ‹_› (by decide)) (to4_at hk)
 rw [show r.to4.name = r.name from rfl] at this
 rw [this]
 exact fun w => by have w2 : r.team = true := w.2; rw [ht] at w2; exact nomatch w2
/-- a hand has gone: the house and the law's own wheels -/
theorem gone_hand {s : Int} {σ σ2 : Hp} {H dw da dm B N k u i j : Nat} {ts : List Nat} {tm tn tn1 tm1 tm' : List Team} {ab ab' : List (Str × Str)} {R : List Row5} {r : Row5} {t1 t1' : Team} (d : Rd10 s σ H dw da dm B ts N tm tn ab R) (hk : R[k]? = some r) (hh : r.here = true) (hteam : r.team = false)
 (c1 : Chg rested r.name false tm tm1 ab) (c2 : Chg rested r.name false tn tn1 ab) (a1 : tm1[i]? = some t1) (e' : tm' = tm1.set i { t1 with l := t1.l.eraseIdx j }) (rel : Rel4 tm' ab' ((R.map Row5.to4).set k { r.to4 with here := false })) (bd : Bd N tm' ab') (h' : HouseD σ2 H dw da tm' ab') (b1 : tn1[i]? = some t1') (b2 : coreT t1' = coreT t1)
 (m' : MirD σ2 dm (tn1.set i { t1' with l := t1'.l.eraseIdx j })) (hR : Rows5 σ2 B R ts) (hru : σ2 u = some (7, .list [.str r.name, .str r.up, .int r.share, .bool r.team, .bool r.rdy, .bool r.here])) (kp : KpW σ σ2) : End10 s σ σ2 H dw da dm B N k u ts tm' (tn1.set i { t1' with l := t1'.l.eraseIdx j }) ab' R r r := by
 subst e'
 have hc1 := chg_det gok_rest d.rel.tr d.h.an d.h.tn d.cor c1 c2
 refine ⟨h', m', erase_core hc1 b2, ?_, by rw [set_same hk]; exact hR, hru, bd.up (Nat.le_succ _), fun v hv => ?_, fun m q hm h1 h2 t ht x hx ex => ?_, rfl, rfl, (d.sh k r hk).1, (d.sh k r hk).2, kp⟩
 · rw [List.map_set]
   have : Row5.to4 { r with rdy := false, here := !r.here } = { r.to4 with here := false } := by rw [hh]; rfl
   rw [this]; exact rel
 · have : v.g ∈ tn1.map (·.g) := by
    rcases mem_set_or hv with rfl | ⟨m, _, hm⟩
    · exact Mn (iEA t1' (Mg b1) rfl)
    · exact Mn (iEA v (Mg hm) rfl)
   refine eEA (Mm this) fun v1 hv1 ev => ?_
   obtain ⟨m, hm⟩ := Mi hv1
   refine eEA (Mm (gs_mem c2.s hm)) fun v0 hv0 e0 => ?_
   have := d.gk v0 hv0
   omega
 · rcases set5 hk hm with ⟨rfl, rfl⟩ | ⟨hne, hq⟩
   · have h1 : (!r.here) = true := h1
     rw [hh] at h1; exact nomatch h1
   · have hxt : ∃ t0 ∈ tm1, x ∈ t0.l := by
      rcases mem_set_or ht with rfl | ⟨m', _, hm'⟩
      · exact (iEA t1 (Mg a1) (List.mem_of_mem_eraseIdx hx))
      · exact (iEA t (Mg hm') hx)
     refine eEA hxt fun t0 w1 w2 => ?_; clear hxt
     have hne2 : x.name ≠ r.name := fun e => hne (d.uq hk m q hq (ex.symm.trans e))
     refine eE1 (chg_other c1 w1 w2 (by rw [ex]; exact hand_no d hq h2) hne2) fun t2 y0' => eA1 y0' fun w3 y1' => eE1 y1' fun x2 y2' => eA2 y2' fun w4 w5 w6 => ?_
     rw [<- w6]
     exact d.rdyM m q hq h1 h2 t2 w3 x2 w4 (w5.trans ex)
theorem map_er {α β : Type} (f : α -> β) (l : List α) (i : Nat) : (l.eraseIdx i).map f = (l.map f).eraseIdx i := by
 rw [List.eraseIdx_eq_take_drop_succ, List.eraseIdx_eq_take_drop_succ, List.map_append, List.map_take, List.map_drop]
theorem come_or_gone_c {s more : Int} {H dw da dm B N k u : Nat} {ts : List Nat} {tm tn : List Team} {ab : List (Str × Str)} {R : List Row5} {r : Row5} (d : Rd10 s σ H dw da dm B ts N tm tn ab R) (hN : N <= 74) (hk : R[k]? = some r) (hu : ts[k]? = some u)
 (hq : ∀ tm' tn' ab' R' σ', Rd10 s σ' H dw da dm B ts (N + 1) tm' tn' ab' R' -> R'.length = R.length -> KpW σ σ' -> Q (.bool true) σ') : WFn (cx w mean mg mb) ⟨n + 7, true, sc⟩ a_law_come_or_gone [.ref H, .ref B, .ref dm, .ref u, .int more] ρ Q X σ := by
 have hl := d.rl
 have tl := d.rows.len
 have hru := d.row hk hu
 have hHo := d.h.hou
 have hB := d.rows.lst
 have r4 := to4_at hk
 have rl4 : (R.map Row5.to4).length <= 26 := by rw [to4_len]; exact Nat.le_trans ‹_› (by decide)
 have nlen : tn.length = tm.length := by have := congrArg List.length d.cor; rwa [List.length_map, List.length_map] at this
 have tmN := d.bd.tl
 have no : ∀ {v : Nat}, v < 20 ∨ 96 <= v -> v ∉ tn.map (·.g) := fun hv hm => by
  refine eEA (Mm hm) fun y hy ey => ?_
  have := d.m.gg y hy
  omega
 refine WFn.fn5 (p1 := "_law_house") (p2 := "_law_rows") (p3 := "_law_wheels") (p4 := "_law_row") (p5 := "_law_more") (FnAt.of5 (rfl : (Mine.hd.heap_39 w.params).lookup a_law_come_or_gone = _) (by kernel_rfl) (fun _ _ _ _ _ => rfl) (by kernel_rfl)) ?_
 cases hh : r.here with
 | true =>
  have z0 : [MV.str r.name, .str r.up, .int r.share, .bool r.team, .bool r.rdy, .bool true][Int.toNat 0]? = some (.str r.name) := rfl
  have z1 : [MV.str r.name, .str r.up, .int r.share, .bool r.team, .bool r.rdy, .bool true][Int.toNat 1]? = some (.str r.up) := rfl
  have z3 : [MV.str r.name, .str r.up, .int r.share, .bool r.team, .bool r.rdy, .bool true][Int.toNat 3]? = some (.bool r.team) := rfl
  have z4 : [MV.str r.name, .str r.up, .int r.share, .bool r.team, .bool r.rdy, .bool true][Int.toNat 4]? = some (.bool r.rdy) := rfl
  have z5 : [MV.str r.name, .str r.up, .int r.share, .bool r.team, .bool r.rdy, .bool true][Int.toNat 5]? = some (.bool true) := rfl
  rw [hh] at hru
  refine Wc (WS.ite (WT.bool (WA.and (PT.use (PT.plain (fun _ _ => rfl) (Px PE.cellA ‹_› ‹_›)) ?_))))
  refine if_tt (WA.and (WT.cmp1 rfl ?_))
  refine WE.compA 9 rfl (fun _ _ => rfl) (by kernel_rfl) (by ((repeat (first | (with_reducible assumption) | (with_reducible refine Lo.put_ne (by kernel_rfl) ?_))); rfl)) ?_
  refine WE.lo ?_
  refine (iEEAA _ _ (Iterable.list (ListAt.own hB)) (by rw [List.length_map]; exact Nat.le_trans (Nat.le_trans (Nat.le_of_eq ‹_›) ‹_›) (by decide)) ?_)
  refine pick5 d.rows (fun q => (q.up == r.name) && q.here) (fun v q e K hK => ?_) (fun v K hK => ?_) fun us hus D hD => ?_
  · have y1 : [MV.str q.name, .str q.up, .int q.share, .bool q.team, .bool q.rdy, .bool q.here][Int.toNat 1]? = some (.str q.up) := rfl
    have y5 : [MV.str q.name, .str q.up, .int q.share, .bool q.team, .bool q.rdy, .bool q.here][Int.toNat 5]? = some (.bool q.here) := rfl
    cases hb : (q.up == r.name) with
    | false =>
     rw [hb] at hK
     refine PT.use (PT.boolop (PA.andF (PT.cmp1 rfl (Px PL ‹_› ‹_›) (Px PE.cellA ‹_› ‹_›) PC.eqS) ‹_›)) ?_
     exact hK
    | true =>
     cases hqh : q.here with
     | false =>
      rw [hb, hqh] at hK
      rw [hqh] at e y1 y5
      refine PT.use (PT.boolop (PA.andT (PT.cmp1 rfl (Px PL ‹_› ‹_›) (Px PE.cellA ‹_› ‹_›) PC.eqS) ‹_› (PA.andF (PT.plain (fun _ _ => rfl) (Px PL ‹_› ‹_›)) rfl))) ?_
      exact hK
     | true =>
      rw [hb, hqh] at hK
      rw [hqh] at e y1 y5
      refine PT.use (PT.boolop (PA.andT (PT.cmp1 rfl (Px PL ‹_› ‹_›) (Px PE.cellA ‹_› ‹_›) PC.eqS) ‹_› (PA.andT (PT.plain (fun _ _ => rfl) (Px PL ‹_› ‹_›)) rfl PA.andN))) ?_
      exact hK
  · skip
    refine WE.lo ?_
    exact hK
  refine WE.list 9 ?_
  refine WEs.nil (⟨by simp, fun E hE => ?_⟩)
  refine WC.ne (Nat.succ_le_succ (Nat.zero_le _)) (by decide) (eqNil (Hp.new hE.none Hp.self) Hp.self).2 ?_
  rw [empt hus, Bool.not_not]
  have e1 : Extd σ ((σ.put D 9 (.list (us.map .ref))).put E 9 (.list [])) := fun a p q => Hp.new hE.none (Hp.new hD q)
  generalize (σ.put D 9 (.list (us.map .ref))).put E 9 (.list []) = σ1 at e1 ⊢
  clear hD hE hus
  have d1 := d.ext e1
  have hru1 := e1 _ _ hru
  have hHo1 := d1.h.hou
  have hdm1 := d1.m.dic
  clear hru hHo hB
  cases hA : R.any (fun q => (q.up == r.name) && q.here) with
  | true =>
   refine eEA (List.any_eq_true.mp hA) fun q hqm hqq => ?_
   obtain ⟨m, hm⟩ := Mi hqm
   rw [Bool.and_eq_true] at hqq
   refine Wb (if_tt (WA.and_nil (if_tt (Wc (WS.ret (WE.cp g_law_not_empty fn_law_not_empty (Po PL (Po (Px PE.cellA ‹_› ‹_›) PN)) ?_))))))
   refine Wf (not_empty_c (n := n) d1 (Nat.le_trans ‹_› (by decide)) hk hh (iEEAA m q hm hqq.2 (beq_iff_eq.mp hqq.1)) fun σ2 e2 => ?_)
   exact hq tm tn ab R σ2 (d1.ext e2).up rfl (e1.kpw.trans e2.kpw)
  | false =>
   have hw : ∀ (m : Nat) (q : Row4), (R.map Row5.to4)[m]? = some q -> q.here = true -> q.up ≠ r.to4.name := fun m q hm h1 h2 => by
    refine eEA (to4_back hm) fun q5 hq5 z1' => ?_; subst z1'
    have := List.any_eq_false.mp hA q5 (Mg hq5)
    exact this (by rw [Bool.and_eq_true]; exact ⟨beq_iff_eq.mpr h2, h1⟩)
   refine Wb (if_ff (if_ff (Wn (WSs.skipP (PT.boolop (PA.andF (PT.not (PT.plain (fun _ _ => rfl) (Px PE.cellA ‹_› ‹_›))) rfl)) rfl ?_))))
   refine WSs.skipP (PT.boolop (PA.andF (PT.not (PT.plain (fun _ _ => rfl) (Px PE.cellA ‹_› ‹_›))) rfl)) rfl ?_
   refine WSs.splitO (fun ρ' σ' => (∃ tm' tn' ab' y, End10 s σ σ' H dw da dm B N k u ts tm' tn' ab' R r y) /\ ρ' "_law_row" = some (.ref u)) ?_ ?_
   · intro KS hKS
     have trn := tree_core d.cor d.rel.tr
     have lkn := link_core d.cor d.rel.lk
     have ndn := mir_ndp d.m
     cases hteam : r.team with
     | true =>
      have hrd : r.rdy = false := d.rt k r hk (.inl hteam)
      rw [hteam, hrd] at hru1 z0 z1 z3 z4 z5
      refine WS.ite (PT.use (PT.plain (fun _ _ => rfl) (Px PE.cellA ‹_› ‹_›)) ?_)
      refine if_tt (WSs.skipP (PT.plain (fun _ _ => rfl) (Px PE.cellA ‹_› ‹_›)) rfl ?_)
      refine Wc (WS.expr (fun _ _ _ => rfl) (WE.mp PL ‹_› ms_House_leave (Po (Px PE.cellA ‹_› ‹_›) PN) ?_))
      refine Wf (lleaveT_c (n := n + 1) (r := r.to4) d1.h d1.rel d1.ok.to4 rl4 d1.bd (Nat.le_trans ‹_› (by decide)) r4 hh hteam hw fun tm' ab' σ2 v h2 rel2 bd2 k2 inf => ?_)
      refine eE6 inf fun iu i j uu t x y0' => eA7 y0' fun c1 c2 c3 c4 c5 c6 c7 z1' => ?_; clear inf; subst z1'
      have c2 : uu.name = r.name := c2
      have c4 : t.name = r.up := c4
      have c6 : x.name = r.name := c6
      have m2 := d1.m.keep (σ' := σ2) fun q w1 w2 => k2 _ _ _ q w1 w2
      have hru2 := k2 _ _ _ hru1 (by decide) (by decide)
      have hR2 := d1.rows.keep (σ' := σ2) (fun q => k2 _ _ _ q (by decide) (by decide)) (fun q => k2 _ _ _ q (by decide) (by decide))
      refine eEA (coreT_at d.cor c3) fun t' b1 b2 => ?_
      have b3 : t'.l.map core = t.l.map core := congrArg (·.2.2) b2
      have b4 : t'.name = r.up := (show t'.name = t.name from congrArg (·.1) b2).trans c4
      refine eEA (core_at b3 c5) fun x' b5 b6 => ?_
      have b7 : x'.name = r.name := (show x'.name = x.name from congrArg (·.1) b6).trans c6
      refine eEA (coreT_at d.cor c1) fun uu' b8 b9 => ?_
      have b10 : uu'.name = r.name := (show uu'.name = uu.name from congrArg (·.1) b9).trans c2
      have hne : i ≠ iu := fun e => by
       subst e
       have : t = uu := Oi (c3.symm.trans c1)
       subst this
       have := d.rel.tr.mem i t j x c3 c5
       rw [c6, c2] at this
       refine eEEAA ((d.rel.abm _).mp this) fun m q w1 w2 w3 => ?_
       exact hw m q w1 w2 (congrArg (·.2) w3).symm
      have hmt := Mg b1
      have hdm2 := m2.dic
      have hgt := getK_mir m2 hmt
      rw [b4] at hgt
      have hwt := m2.whl t' hmt
      have hW : σ2 t'.W = some (t'.g, .inst a_Wheel [("past", .int t'.past), ("sharers", .ref t'.d)]) := hwt.whl
      have gg := m2.gg t' hmt
      have zl := core_lens d.cor fun v hv => (d.rel.sh v hv).1
      refine Wc (WS.expr (fun _ _ _ => rfl) (WE.mp (PE.sub PL (Px PE.cellA ‹_› ‹_›) (PI.sdict (fun _ _ => rfl) ‹_› ‹_›)) ‹_› ms_Wheel_leave (Po (Px PE.cellA ‹_› ‹_›) PN) ?_))
      rw [<- b7]
      refine Wf (leave_c hwt (zl t' hmt) b5 fun σ3 h3 o3 => ?_)
      have m3 := m2.one (t' := { t' with l := t'.l.eraseIdx j }) b1 rfl rfl rfl h3 o3
      have hru3 := o3.at hru2 (om_lo ‹_› (by first | assumption | decide))
      have hR3 := hR2.keep (σ' := σ3) (fun q => o3.at q (om_lo ‹_› (by first | assumption | decide))) (fun q => o3.at q (om_lo ‹_› (by first | assumption | decide)))
      have hh3 := h2.keep (σ' := σ3) (fun q => o3.at q (om_lo ‹_› (by first | assumption | decide))) (fun q w => o3.at q (om_hi ‹_› ‹_›))
      have hdm3 := m3.dic
      have hil := (Gs b1).1
      have hiu3 : (tn.set i { t' with l := t'.l.eraseIdx j })[iu]? = some uu' := by rw [List.getElem?_set_ne hne]; exact b8
      have hgu := getK_mir m3 (Mg hiu3)
      rw [b10] at hgu
      have tll : (tents (tn.set i { t' with l := t'.l.eraseIdx j })).length <= 1000000 := by unfold tents; rw [List.length_map, List.length_set]; omega
      refine WSs.thenP (PT.plain (fun _ _ => rfl) (Px PE.cellA ‹_› ‹_›)) rfl ?_
      refine Wc (WS.expr (fun _ _ _ => rfl) (WE.method (fun _ _ => rfl) rfl rfl rfl (WE.lo ?_)))
      refine WM.dictPop hdm3 ?_
      refine And.intro (Callee.con rfl) (PEs.use (Po (Px PE.cellA ‹_› ‹_›) PN) ?_)
      refine WCall.dictPop hdm3 tll hgu ?_
      rw [delK_tents]
      have m4 := m3.popT r.name
      have fe := filter_erase m3.tn hiu3
      rw [b10] at fe
      rw [fe] at m4 ⊢
      have k4 : ∀ {a t o}, σ3 a = some (t, o) -> t ≠ 2 -> (σ3.put dm 2 (.sdict (tents ((tn.set i { t' with l := t'.l.eraseIdx j }).eraseIdx iu)))) a = some (t, o) := fun q w => Hp.tag hdm3 w q
      refine Wn (Wn (hKS _ _ ⟨(iE4 _ _ _ r ⟨hh3.keep (fun q => k4 q (by decide)) (fun q w => k4 q (by omega)), m4, ?_, ?_, ?_, ?_, bd2.up (Nat.le_succ _), fun v hv => ?_, fun m q hm h1 h2 t0 ht0 x0 hx0 ex => ?_, rfl, rfl, (d.sh k r hk).1, (d.sh k r hk).2, fun a t0 o q w1 w2 w7 w20 => k4 (o3.at (k2 _ _ _ (e1 _ _ q) w1 (by omega)) (om_lo ‹_› (by first | assumption | decide))) w2⟩), by walk_at "lk"⟩))
      · rw [map_er, map_er, erase_core d.cor b2]
      · rw [List.map_set]
        have : Row5.to4 { r with rdy := false, here := !r.here } = { r.to4 with here := false } := by rw [hh]; rfl
        rw [this]; exact rel2
      · rw [set_same hk]
        exact hR3.keep (fun q => k4 q (by decide)) (fun q => k4 q (by decide))
      · rw [hteam, hrd, hh]; exact k4 hru3 (by decide)
      · have hv' := (List.eraseIdx_sublist _ iu).subset hv
        rcases mem_set_or hv' with rfl | ⟨m, _, hm⟩
        · have := d.gk t' hmt
          show t'.g < _
          omega
        · have := d.gk v (Mg hm)
          omega
      · rcases set5 hk hm with ⟨rfl, rfl⟩ | ⟨hne', hq'⟩
        · have h1 : (!r.here) = true := h1
          rw [hh] at h1; exact nomatch h1
        · have ht0' := (List.eraseIdx_sublist _ iu).subset ht0
          rcases mem_set_or ht0' with rfl | ⟨m', _, hm'⟩
          · exact d.rdyM m q hq' h1 h2 t (Mg c3) x0 (List.mem_of_mem_eraseIdx hx0) ex
          · exact d.rdyM m q hq' h1 h2 t0 (Mg hm') x0 hx0 ex
     | false =>
      have hnN := hand_no d hk hteam
      refine eE6 (d.place hk hh) fun i0 t0 j0 x0 t0' x0' y0' => eA7 y0' fun p1 p2 p3 p4 p5 p6 p7 p8 => ?_
      have x0r : x0'.ready = r.rdy := (show x0'.ready = x0.ready from congrArg (·.2.2.2) p8).trans (d.rdy k r hk hh hteam i0 t0 j0 x0 p1 p3 p4)
      have x0n : x0'.name = r.name := (show x0'.name = x0.name from congrArg (·.1) p8).trans p4
      have zl := core_lens d.cor fun v hv => (d.rel.sh v hv).1
      have fin : ∀ {tn1 : List Team} {σ2 : Hp}, HouseD σ2 H dw da tm ab -> MirD σ2 dm tn1 -> Chg rested r.name false tn tn1 ab -> Rows5 σ2 B R ts -> σ2 u = some (7, .list [.str r.name, .str r.up, .int r.share, .bool false, .bool r.rdy, .bool true]) -> KpW σ σ2 -> ∀ {tm' : List Team} {ab' : List (Str × Str)} {σ3 : Hp}, HouseD σ3 H dw da tm' ab' -> Rel4 tm' ab' ((R.map Row5.to4).set k { r.to4 with here := false }) -> Bd N tm' ab' -> KpH σ2 σ3 -> (∃ (tm1 : List Team) (i j : Nat) (t1 : Team) (x1 : Shr), Chg rested r.to4.name false tm tm1 ab /\ tm1[i]? = some t1 /\ t1.name = r.to4.up /\ t1.l[j]? = some x1 /\ x1.name = r.to4.name /\ tm' = tm1.set i { t1 with l := t1.l.eraseIdx j }) ->
       ∃ (i j : Nat) (t1' : Team) (x1' : Shr), MirD σ3 dm tn1 /\ tn1[i]? = some t1' /\ t1'.name = r.up /\ t1'.l[j]? = some x1' /\ x1'.name = r.name /\ t1'.l.length <= 1000000 /\ ∀ {σ4 : Hp}, MirD σ4 dm (tn1.set i { t1' with l := t1'.l.eraseIdx j }) -> Oth t1'.g σ3 σ4 -> (∃ tm' tn' ab' y, End10 s σ σ4 H dw da dm B N k u ts tm' tn' ab' R r y) := by
       intro tn1 σ2 h2 m2 cg2 hR2 hru2 kp2 tm' ab' σ3 h3 rel3 bd3 k3 inf
       refine eE5 inf fun tm1 i j t1 x1 y0' => eA5 y0' fun cg1 a1 a2 a3 a4 e' => ?_; clear inf
       have cg1 : Chg rested r.name false tm tm1 ab := cg1
       have hc1 := chg_det gok_rest d.rel.tr d.h.an d.h.tn d.cor cg1 cg2
       refine eEA (coreT_at hc1 a1) fun t1' b1 b2 => ?_
       have b3 : t1'.l.map core = t1.l.map core := congrArg (·.2.2) b2
       refine eEA (core_at b3 a3) fun x1' b5 b6 => ?_
       have m3 := m2.keep (σ' := σ3) fun q w1 w2 => k3 _ _ _ q w1 w2
       have hmt := Mg b1
       have hru3 := k3 _ _ _ hru2 (by decide) (by decide)
       have hR3 := hR2.keep (σ' := σ3) (fun q => k3 _ _ _ q (by decide) (by decide)) (fun q => k3 _ _ _ q (by decide) (by decide))
       have gg := m3.gg t1' hmt
       have ll : t1'.l.length <= 1000000 := by
        obtain ⟨t2, q1, _, _, _, _, q6⟩ := cg2.s.back b1 |> fun ⟨t2, q1, q2, q3⟩ => (⟨t2, q1, q2, trivial, trivial, trivial, q3⟩ : ∃ t : Team, tn[i]? = some t /\ t1'.name = t.name /\ True /\ True /\ True /\ t1'.l.map nsh = t.l.map nsh)
        have := congrArg List.length q6
        rw [List.length_map, List.length_map] at this
        rw [this]; exact zl t2 (Mg q1)
       refine (iE4 i j t1' x1' (iA6 m3 b1 ((show t1'.name = t1.name from congrArg (·.1) b2).trans a2) b5 ((show x1'.name = x1.name from congrArg (·.1) b6).trans a4) ll (fun {σ4} m4 o4 => (iE4 tm' (tn1.set i { t1' with l := t1'.l.eraseIdx j }) ab' r ?_))))
       exact gone_hand d hk hh hteam cg1 cg2 a1 e' rel3 bd3 (h3.keep (fun q => o4.at q (om_lo ‹_› (by first | assumption | decide))) (fun q w => o4.at q (om_hi ‹_› ‹_›))) b1 b2 m4 (hR3.keep (fun q => o4.at q (om_lo ‹_› (by first | assumption | decide))) (fun q => o4.at q (om_lo ‹_› (by first | assumption | decide)))) (by rw [hteam, hh]; exact o4.at hru3 (om_lo ‹_› (by first | assumption | decide))) fun a t o q w1 w2 w7 w20 => o4.at (k3 _ _ _ (kp2 _ _ _ q w1 w2 w7 w20) w1 (by omega)) (om_lo ‹_› (by first | assumption | decide))
      cases hrd : r.rdy with
      | false =>
       rw [hteam, hrd] at hru1 z0 z1 z3 z4 z5
       refine WS.ite (PT.use (PT.plain (fun _ _ => rfl) (Px PE.cellA ‹_› ‹_›)) ?_)
       refine if_tt (WSs.skipP (PT.plain (fun _ _ => rfl) (Px PE.cellA ‹_› ‹_›)) rfl ?_)
       refine Wc (WS.expr (fun _ _ _ => rfl) (WE.mp PL ‹_› ms_House_leave (Po (Px PE.cellA ‹_› ‹_›) PN) ?_))
       refine Wf (lleaveH_c (n := n + 1) (r := r.to4) d1.h d1.rel d1.ok.to4 rl4 d1.bd (Nat.le_trans ‹_› (by decide)) r4 hh hteam fun tm' ab' σ2 v h2 rel2 bd2 k2 inf => ?_)
       refine eE4 (fin d1.h d1.m (by rw [<- x0n]; exact chg_idle trn lkn d.h.an ndn p5 p7 (x0r.trans hrd)) d1.rows (by rw [hrd]; exact hru1) e1.kpw h2 rel2 bd2 k2 inf) fun i j t1' x1' y0' => eA6 y0' fun m2 b1 b2 b3 b4 b5 hend => ?_
       have hru2 := k2 _ _ _ hru1 (by decide) (by decide)
       have hmt := Mg b1
       have hdm2 := m2.dic
       have hgt := getK_mir m2 hmt
       rw [b2] at hgt
       have hwt := m2.whl t1' hmt
       have hW : σ2 t1'.W = some (t1'.g, .inst a_Wheel [("past", .int t1'.past), ("sharers", .ref t1'.d)]) := hwt.whl
       have gg := m2.gg t1' hmt
       refine Wc (WS.expr (fun _ _ _ => rfl) (WE.mp (PE.sub PL (Px PE.cellA ‹_› ‹_›) (PI.sdict (fun _ _ => rfl) ‹_› ‹_›)) ‹_› ms_Wheel_leave (Po (Px PE.cellA ‹_› ‹_›) PN) ?_))
       rw [<- b4]
       refine Wf (leave_c hwt b5 b3 fun σ3 h3 o3 => ?_)
       have m3 := m2.one (t' := { t1' with l := t1'.l.eraseIdx j }) b1 rfl rfl rfl h3 o3
       have hru3 := o3.at hru2 (om_lo ‹_› (by first | assumption | decide))
       refine WSs.skipP (PT.plain (fun _ _ => rfl) (Px PE.cellA ‹_› ‹_›)) rfl ?_
       refine Wn ?_
       exact hKS _ _ ⟨hend m3 o3, by walk_at "lk"⟩
      | true =>
       rw [hteam, hrd] at hru1 z0 z1 z3 z4 z5
       have nN' : x0'.name ∉ tn.map (·.name) := by rw [core_names d.cor, x0n]; exact hnN
       refine WS.ite (PT.use (PT.plain (fun _ _ => rfl) (Px PE.cellA ‹_› ‹_›)) ?_)
       refine if_tt (WSs.thenP (PT.plain (fun _ _ => rfl) (Px PE.cellA ‹_› ‹_›)) rfl ?_)
       refine Wc (WS.expr (fun _ _ _ => rfl) (WE.cp g_law_stirred fn_law_stirred (Po PL (Po PL (Po (Px PE.cellA ‹_› ‹_›) (Po PE.bool PN)))) ?_))
       rw [<- x0n]
       refine Wf (stirDown_c d1.m trn lkn d.h.an d1.rows (Nat.le_trans ‹_› (by decide)) d.abv p5 p7 nN' (x0r.trans hrd) zl fun tn1 σ2 m2 c2 k2 => ?_)
       rw [x0n] at c2
       have h2 := d1.h.kpt d1.m k2
       have hru2 := k2 _ _ _ hru1 (no (.inl (by decide)))
       have hR2 := d1.rows.keep (σ' := σ2) (fun q => k2 _ _ _ q (no (.inl (by decide)))) (fun q => k2 _ _ _ q (no (.inl (by decide))))
       have kp2 : KpW σ σ2 := e1.kpw.trans (KpT.kpw d1.m k2)
       have hHo2 := h2.hou
       refine Wn (Wc (WS.expr (fun _ _ _ => rfl) (WE.mp PL ‹_› ms_House_leave (Po (Px PE.cellA ‹_› ‹_›) PN) ?_)))
       refine Wf (lleaveH_c (n := n + 1) (r := r.to4) h2 d1.rel d1.ok.to4 rl4 d1.bd (Nat.le_trans ‹_› (by decide)) r4 hh hteam fun tm' ab' σ3 v h3 rel3 bd3 k3 inf => ?_)
       refine eE4 (fin h2 m2 c2 hR2 (by rw [hrd]; exact hru2) kp2 h3 rel3 bd3 k3 inf) fun i j t1' x1' y0' => eA6 y0' fun m3 b1 b2 b3 b4 b5 hend => ?_
       have hru3 := k3 _ _ _ hru2 (by decide) (by decide)
       have hmt := Mg b1
       have hdm3 := m3.dic
       have hgt := getK_mir m3 hmt
       rw [b2] at hgt
       have hwt := m3.whl t1' hmt
       have hW : σ3 t1'.W = some (t1'.g, .inst a_Wheel [("past", .int t1'.past), ("sharers", .ref t1'.d)]) := hwt.whl
       have gg := m3.gg t1' hmt
       refine Wc (WS.expr (fun _ _ _ => rfl) (WE.mp (PE.sub PL (Px PE.cellA ‹_› ‹_›) (PI.sdict (fun _ _ => rfl) ‹_› ‹_›)) ‹_› ms_Wheel_leave (Po (Px PE.cellA ‹_› ‹_›) PN) ?_))
       rw [<- b4]
       refine Wf (leave_c hwt b5 b3 fun σ4 h4 o4 => ?_)
       have m4 := m3.one (t' := { t1' with l := t1'.l.eraseIdx j }) b1 rfl rfl rfl h4 o4
       have hru4 := o4.at hru3 (om_lo ‹_› (by first | assumption | decide))
       refine WSs.skipP (PT.plain (fun _ _ => rfl) (Px PE.cellA ‹_› ‹_›)) rfl ?_
       refine Wn ?_
       exact hKS _ _ ⟨hend m4 o4, by walk_at "lk"⟩
   rintro ρ' σ2 ⟨⟨tm', tn', ab', y, E⟩, r0⟩
   have hrow := E.row
   have hyh := E.yh
   have E4 := E.done d hk hu
   rw [hyh, hh] at hrow
   have yx : ∀ v : MV, ([MV.str y.name, .str y.up, .int y.share, .bool y.team, .bool y.rdy, .bool true].set (Int.toNat 4) v)[Int.toNat 5]? = some (.bool true) := fun _ => rfl
   refine Wc (WS.setItem (fun _ _ _ => rfl) (WE.bool (WE.cellA (by kernel_rfl) (by kernel_rfl) (by walk_at "lk") ?_)))
   refine WE.int (WPut.list hrow (by decide) (by simp) (by simp) ?_)
   have hrow2 : (σ2.put u 7 (.list ([MV.str y.name, .str y.up, .int y.share, .bool y.team, .bool y.rdy, .bool true].set (Int.toNat 4) (.bool false)))) u = some (7, .list [MV.str y.name, .str y.up, .int y.share, .bool y.team, .bool false, .bool true]) := Hp.self
   have hz5 : [MV.str y.name, .str y.up, .int y.share, .bool y.team, .bool false, .bool true][Int.toNat 5]? = some (.bool true) := rfl
   refine Wc (WS.setItem (fun _ _ _ => rfl) (WE.unary (PE.use (Px PE.cellA ‹_› ‹_›) ?_)))
   refine WU.not ?_
   refine Wb (WE.cellA (by kernel_rfl) (by kernel_rfl) (by walk_at "lk") ?_)
   refine WE.int (WPut.list hrow2 (by decide) (by simp) (by simp) ?_)
   rw [Hp.put_put]
   refine WSs.retP PE.bool ?_
   have ew : rowW { y with rdy := false, here := !r.here } = [MV.str y.name, .str y.up, .int y.share, .bool y.team, .bool false, .bool true].set (Int.toNat 5) (.bool (!true)) := by rw [hh]; rfl
   rw [ew] at E4
   exact hq _ _ _ _ _ E4.1 (by rw [List.length_set]) E4.2
 | false =>
  rw [hh] at hru
  obtain ⟨hna, hntm⟩ := gone_new d.rel d.ok.to4 rl4 r4 hh
  have hna : r.name ∉ ab.map (·.1) := hna
  have hntm : r.name ∉ tm.map (·.name) := hntm
  have okn : okN r.name := row_okn d.ok.to4 r4
  have hdm := d.m.dic
  have z1 : [MV.str r.name, .str r.up, .int r.share, .bool r.team, .bool r.rdy, .bool false][Int.toNat 1]? = some (.str r.up) := rfl
  have z5 : [MV.str r.name, .str r.up, .int r.share, .bool r.team, .bool r.rdy, .bool false][Int.toNat 5]? = some (.bool false) := rfl
  have tlz : (tents tn).length = tn.length := List.length_map ..
  refine WSs.skipP (PT.boolop (PA.andF (PT.plain (fun _ _ => rfl) (Px PE.cellA ‹_› ‹_›)) rfl)) rfl ?_
  refine WSs.splitO (fun ρ' σ' => (∃ up1, HouseD σ' H dw da tm ab /\ MirD σ' dm tn /\ Rows5 σ' B (R.set k { r with up := up1 }) ts /\ σ' u = some (7, .list [.str r.name, .str up1, .int r.share, .bool r.team, .bool r.rdy, .bool false]) /\ KpW σ σ') /\ ρ' "_law_house" = some (.ref H) /\ ρ' "_law_rows" = some (.ref B) /\ ρ' "_law_wheels" = some (.ref dm) /\ ρ' "_law_row" = some (.ref u) /\ ρ' "_law_more" = some (.int more)) ?_ ?_
  · intro KS hKS
    by_cases c3 : (more.fdiv 3).fmod 3 = 1
    · have npos : 0 < tn.length := by
       refine eEA ((tree_core d.cor d.rel.tr).root) fun t ht _ => ?_
       exact Nat.lt_of_le_of_lt (Nat.zero_le _) (Gs ht).1
      have nn1 : (1 : Int) <= ((tents tn).length : Int) := by rw [tlz]; omega
      have nn0 : ((tents tn).length : Int) ≠ 0 := by omega
      have nnb : ((tents tn).length : Int).natAbs < 1073741824 := by rw [tlz]; omega
      have i0 := fmod_ge (more.fdiv 9) nn1
      have i1 := fmod_lt (more.fdiv 9) nn1
      have i2 : (more.fdiv 9).fmod ((tents tn).length : Int) < 2 ^ 63 := by rw [tlz] at i1 ⊢; omega
      obtain ⟨ix, hix⟩ := Int.eq_ofNat_of_zero_le i0
      have ixl : ix < (tents tn).length := by omega
      have hx0 : (tents tn)[ix]? = some (tents tn)[ix] := List.getElem?_eq_getElem ixl
      generalize (tents tn)[ix] = pp at hx0
      have hx1 : ((tents tn).map fun p => MV.str p.1)[((more.fdiv 9).fmod ((tents tn).length : Int)).toNat]? = some (.str pp.1) := by rw [hix, Int.toNat_natCast, List.getElem?_map, hx0]; rfl
      refine WS.ite (PT.use (PT.boolop (PA.andT (PT.not (PT.plain (fun _ _ => rfl) (Px PE.cellA ‹_› ‹_›))) rfl (PA.andT (PT.cmp1 rfl (PE.binop (PE.binop PL PE.int (PB.div (by decide) (by decide))) PE.int (PB.mod (by decide))) PE.int PC.eqI) (b_et ‹_›) PA.andN))) ?_)
      refine if_tt (Wc (WS.setItem (fun _ _ _ => rfl) (WE.sub (WE.callP (by kernel_rfl) g_list (Callee.con rfl) (Po PL PN) rfl ?_))))
      refine WCall.listKeys 9 rfl hdm (by rw [tlz]; omega) fun b hb => ?_
      have hb1 : (σ.put b 9 (.list ((tents tn).map fun p => MV.str p.1))) b = _ := Hp.self
      have e1 : Extd σ (σ.put b 9 (.list ((tents tn).map fun p => MV.str p.1))) := fun a p q => Hp.new hb.none q
      generalize σ.put b 9 (.list ((tents tn).map fun p => MV.str p.1)) = σ1 at hb1 e1 ⊢
      have d1 := d.ext e1
      have hru1 := e1 _ _ hru
      refine WE.binop (PE.use (PE.binop PL PE.int (PB.div (by decide) (by decide))) ?_)
      refine WE.callP (by kernel_rfl) g_len (Callee.con rfl) (Po PL PN) rfl ?_
      refine WCall.lenDict (e1 _ _ hdm) (by rw [tlz]; omega) ?_
      refine WB.mod (by with_reducible assumption) ?_
      refine WSub.list (fun _ _ => rfl) (ListAt.own ‹_›) (by with_reducible assumption) (by with_reducible assumption) ‹_› ?_
      refine WE.cellA (by kernel_rfl) (by kernel_rfl) (by walk_at "lk") ?_
      refine WE.int (WPut.list hru1 (by decide) (by simp) (by simp) ?_)
      refine eA4 (mark5 { r with up := pp.1 } d1.h d1.m d1.rows hu hru1) fun h2 m2 hR2 k2 hu2 => ?_
      have ew : rowW { r with up := pp.1 } = [MV.str r.name, .str r.up, .int r.share, .bool r.team, .bool r.rdy, .bool false].set (Int.toNat 1) (.str pp.1) := by unfold rowW; rw [hh]; rfl
      rw [<- ew]
      refine Wn ?_
      exact hKS _ _ (iA5 (iEAAAA pp.1 h2 m2 hR2 (by rw [hu2, hh]) (e1.kpw.trans k2)) (by walk_at "lk") (by walk_at "lk") (by walk_at "lk") (by walk_at "lk") (by walk_at "lk"))
    · have b3 : ((more.fdiv 3).fmod 3 == 1) = false := beq_eq_false_iff_ne.mpr c3
      refine WS.ite (PT.use (PT.boolop (PA.andT (PT.not (PT.plain (fun _ _ => rfl) (Px PE.cellA ‹_› ‹_›))) rfl (PA.andF (PT.cmp1 rfl (PE.binop (PE.binop PL PE.int (PB.div (by decide) (by decide))) PE.int (PB.mod (by decide))) PE.int PC.eqI) ‹_›))) ?_)
      refine if_ff (Wn ?_)
      exact hKS _ _ (iA5 (iEAAAA r.up d.h d.m (by rw [show ({ r with up := r.up } : Row5) = r from rfl, set_same hk]; exact d.rows) hru (fun _ _ _ q _ _ _ _ => q)) (by walk_at "lk") (by walk_at "lk") (by walk_at "lk") (by walk_at "lk") (by walk_at "lk"))
  clear hru hHo hB hdm
  rintro ρ' σ1 ⟨⟨up1, h1, m1, hR1, hru1, kp1⟩, r0, r1, r2, r3, r4'⟩
  have hdm1 := m1.dic
  have y1 : [MV.str r.name, .str up1, .int r.share, .bool r.team, .bool r.rdy, .bool false][Int.toNat 1]? = some (.str up1) := rfl
  have y5 : [MV.str r.name, .str up1, .int r.share, .bool r.team, .bool r.rdy, .bool false][Int.toNat 5]? = some (.bool false) := rfl
  have rel1 : Rel4 tm ab ((R.set k { r with up := up1 }).map Row5.to4) := by rw [List.map_set]; exact d.rel.alter r4 hh hh
  by_cases hin : up1 ∈ tn.map (·.name)
  · refine eEA (Mm hin) fun t' hmt ht' => ?_
    obtain ⟨i, hi⟩ := Mi hmt
    have hgt := getK_mir m1 hmt
    rw [ht'] at hgt
    refine Wc (WS.ite (WT.bool (WA.and (PT.use (PT.not (PT.plain (fun _ _ => rfl) (Px PE.cellA ‹_› ‹_›))) ?_))))
    refine if_nf ?_
    refine WA.and (WT.cmp1 rfl (PE.use (Px PE.cellA ‹_› ‹_›) ?_))
    refine WE.lo ?_
    refine WC.notInS_t ‹_› ‹_› ?_
    refine Wb (if_ff (if_ff (Wn (WSs.splitO (fun ρ' σ' => (∃ tm' tn' ab' y, End10 s σ σ' H dw da dm B N k u ts tm' tn' ab' R r y) /\ ρ' "_law_row" = some (.ref u)) ?_ ?_))))
    · intro KS hKS
      have hwt := m1.whl t' hmt
      have hW : σ1 t'.W = some (t'.g, .inst a_Wheel [("past", .int t'.past), ("sharers", .ref t'.d)]) := hwt.whl
      have gg := m1.gg t' hmt
      have zl := core_lens d.cor fun v hv => (d.rel.sh v hv).1
      obtain ⟨sh0, sh1⟩ := d.sh k r hk
      have trn := tree_core d.cor d.rel.tr
      have hnt : r.name ∉ t'.l.map (·.name) := fun hx => by
       refine eEA (Mm hx) fun y hy e => ?_
       obtain ⟨m, hm⟩ := Mi hy
       exact hna (Mn (iEA _ (trn.mem i t' m y hi hm) e))
      have hupT : up1 ∈ tm.map (·.name) := by rw [<- core_names d.cor]; exact hin
      have x0 : [MV.str r.name, .str up1, .int r.share, .bool r.team, .bool r.rdy, .bool false][Int.toNat 0]? = some (.str r.name) := rfl
      have x2 : [MV.str r.name, .str up1, .int r.share, .bool r.team, .bool r.rdy, .bool false][Int.toNat 2]? = some (.int r.share) := rfl
      have x3 : [MV.str r.name, .str up1, .int r.share, .bool r.team, .bool r.rdy, .bool false][Int.toNat 3]? = some (.bool r.team) := rfl
      refine WS.ite (PT.use (PT.plain (fun _ _ => rfl) (Px PE.cellA ‹_› ‹_›)) ?_)
      refine if_ff (Wc (WS.expr (fun _ _ _ => rfl) (WE.mp (PE.sub PL (Px PE.cellA ‹_› ‹_›) (PI.sdict (fun _ _ => rfl) ‹_› ‹_›)) ‹_› ms_Wheel_enter (Po (Px PE.cellA ‹_› ‹_›) (Po (Px PE.cellA ‹_› ‹_›) PN)) ?_)))
      refine Wf (enter_c hwt hnt sh0 sh1 (zl t' hmt) fun a σ2 h2 o2 => ?_)
      have m2 := m1.one (t' := { t' with l := t'.l ++ [⟨r.name, a, r.share, 0, false⟩] }) hi rfl rfl rfl h2 o2
      have en2 : Ent tn up1 r.name r.share (tn.set i { t' with l := t'.l ++ [⟨r.name, a, r.share, 0, false⟩] }) := (iEEEAA i t' a hi ht' rfl)
      have hru2 := o2.at hru1 (om_lo ‹_› (by first | assumption | decide))
      have hR2 := hR1.keep (σ' := σ2) (fun q => o2.at q (om_lo ‹_› (by first | assumption | decide))) (fun q => o2.at q (om_lo ‹_› (by first | assumption | decide)))
      have hh2 := h1.keep (σ' := σ2) (fun q => o2.at q (om_lo ‹_› (by first | assumption | decide))) (fun q w => o2.at q (om_hi ‹_› ‹_›))
      have kp2 : KpW σ σ2 := fun a t o q w1 w2 w7 w20 => o2.at (kp1 _ _ _ q w1 w2 w7 w20) (om_lo ‹_› (by first | assumption | decide))
      have gk2 : ∀ v ∈ tn.set i { t' with l := t'.l ++ [⟨r.name, a, r.share, 0, false⟩] }, v.g < 21 + N := fun v hv => by
       rcases mem_set_or hv with rfl | ⟨m, _, hm⟩
       · exact d.gk t' hmt
       · exact d.gk v (Mg hm)
      have nm2 : (tn.set i { t' with l := t'.l ++ [⟨r.name, a, r.share, 0, false⟩] }).map (·.name) = tm.map (·.name) := by rw [map_set_same (fun v : Team => v.name) (y := { t' with l := t'.l ++ [⟨r.name, a, r.share, 0, false⟩] }) hi rfl]; exact core_names d.cor
      have tl2 : (tn.set i { t' with l := t'.l ++ [⟨r.name, a, r.share, 0, false⟩] }).length = tn.length := List.length_set ..
      generalize tn.set i { t' with l := t'.l ++ [⟨r.name, a, r.share, 0, false⟩] } = tn2 at m2 en2 gk2 nm2 tl2
      clear hwt hW h2 o2 hR1 hru1 kp1 h1 m1 hdm1
      refine Wc (WS.setItem (fun _ _ _ => rfl) (PE.use (PE.cmp1 rfl (Px PE.cellA ‹_› ‹_›) (PE.cmp1 rfl (PE.binop PL PE.int (PB.mod (by decide))) PE.int PC.eqI) PC.neB) ?_))
      refine WE.cellA (by kernel_rfl) (by kernel_rfl) (by walk_at "lk") ?_
      refine WE.int (WPut.list hru2 (by decide) (by simp) (by simp) ?_)
      generalize (r.team != (more.fmod 3 == 1)) = tb
      refine eA4 (mark5 { r with up := up1, team := tb } hh2 m2 hR2 hu hru2) fun h3 m3 hR3 k3 hu3 => ?_
      have ew : rowW { r with up := up1, team := tb } = [MV.str r.name, .str up1, .int r.share, .bool r.team, .bool r.rdy, .bool false].set (Int.toNat 3) (.bool tb) := by unfold rowW; rw [hh]; rfl
      rw [<- ew]
      rw [List.set_set] at hR3
      have kp3 := kp2.trans k3
      generalize σ2.put u 7 (.list (rowW { r with up := up1, team := tb })) = σ3 at h3 m3 hR3 hu3 kp3 ⊢
      clear k3 hh2 m2 hR2 hru2 ew kp2
      have hu3' : σ3 u = some (7, .list [.str r.name, .str up1, .int r.share, .bool tb, .bool r.rdy, .bool false]) := by rw [hu3, hh]
      clear hu3
      have hk3 : ((R.set k { r with up := up1, team := tb }).map Row5.to4)[k]? = some (Row5.to4 { r with up := up1, team := tb }) := to4_at (List.getElem?_set_self (Gs hk).1)
      have rel3 : Rel4 tm ab ((R.set k { r with up := up1, team := tb }).map Row5.to4) := by rw [List.map_set]; exact d.rel.alter r4 hh hh
      have ok3 : ROk4 s ((R.set k { r with up := up1, team := tb }).map Row5.to4) := by rw [List.map_set]; exact d.ok.to4.alter r4 rfl
      have rl3 : ((R.set k { r with up := up1, team := tb }).map Row5.to4).length <= 26 := by rw [to4_len, List.length_set]; exact Nat.le_trans ‹_› (by decide)
      have hHo3 := h3.hou
      have yx0 : [MV.str r.name, .str up1, .int r.share, .bool tb, .bool r.rdy, .bool false][Int.toNat 0]? = some (.str r.name) := rfl
      have yx1 : [MV.str r.name, .str up1, .int r.share, .bool tb, .bool r.rdy, .bool false][Int.toNat 1]? = some (.str up1) := rfl
      have yx2 : [MV.str r.name, .str up1, .int r.share, .bool tb, .bool r.rdy, .bool false][Int.toNat 2]? = some (.int r.share) := rfl
      have yx3 : [MV.str r.name, .str up1, .int r.share, .bool tb, .bool r.rdy, .bool false][Int.toNat 3]? = some (.bool tb) := rfl
      have eS : ∀ tb : Bool, (((R.set k { r with up := up1, team := tb }).map Row5.to4).set k { Row5.to4 { r with up := up1, team := tb } with up := up1, team := tb, here := true }) = (R.set k { r with up := up1, team := tb, rdy := false, here := !r.here }).map Row5.to4 := fun tb => by
       rw [List.map_set, List.map_set, List.set_set, hh]; rfl
      cases htb : tb with
      | false =>
       rw [htb] at hu3' yx0 yx1 yx2 yx3 hk3 rel3 ok3 rl3 hR3
       refine WSs.elseP (PT.plain (fun _ _ => rfl) (Px PE.cellA ‹_› ‹_›)) rfl ?_
       refine Wc (WS.expr (fun _ _ _ => rfl) (WE.mp PL ‹_› ms_House_hand (Po (Px PE.cellA ‹_› ‹_›) (Po (Px PE.cellA ‹_› ‹_›) (Po (Px PE.cellA ‹_› ‹_›) PN))) ?_))
       refine Wf (come_hand (n := n + 1) (r := Row5.to4 { r with up := up1, team := false }) h3 rel3 ok3 rl3 d.bd (Nat.le_trans ‹_› (by decide)) hk3 hh hupT sh0 sh1 fun tm' ab' σ4 h4 rel4 bd4 k4 en4 => ?_)
       refine Wn (Wn ?_)
       refine hKS _ _ ⟨(iE4 tm' tn2 ab' ({ r with up := up1, team := false }) ⟨h4, m3.keep fun q w1 w2 => k4 _ _ _ q w1 w2, ent_det d.cor d.h.tn en4 en2, (eS false) ▸ rel4, hR3.keep (fun q => k4 _ _ _ q (by decide) (by decide)) (fun q => k4 _ _ _ q (by decide) (by decide)), by rw [hh]; exact k4 _ _ _ hu3' (by decide) (by decide), bd4, fun t ht => Nat.lt_succ_of_lt (gk2 t ht), ?_, rfl, rfl, sh0, sh1, fun a t o q w1 w2 w7 w20 => k4 _ _ _ (kp3 _ _ _ q w1 w2 w7 w20) w1 (by omega)⟩), by walk_at "lk"⟩
       exact rdy_ent d.rdyM d.rel.tr hk (d.uq hk) hna en4 rfl rfl
      | true =>
       rw [htb] at hu3' yx0 yx1 yx2 yx3 hk3 rel3 ok3 rl3 hR3
       refine WSs.thenP (PT.plain (fun _ _ => rfl) (Px PE.cellA ‹_› ‹_›)) rfl ?_
       refine Wc (WS.expr (fun _ _ _ => rfl) (WE.mp PL ‹_› ms_House_team (Po (Px PE.cellA ‹_› ‹_›) (Po (Px PE.cellA ‹_› ‹_›) (Po (Px PE.cellA ‹_› ‹_›) PN))) ?_))
       refine Wf (come_team (n := n + 1) (r := Row5.to4 { r with up := up1, team := true }) h3 rel3 ok3 rl3 d.bd (Nat.le_trans ‹_› (by decide)) hk3 hh hupT sh0 sh1 fun tm' ab' σ4 h4 rel4 bd4 k4 en4 => ?_)
       refine eE4 en4 fun tm0 W0 d0 g0 y0' => eA1 y0' fun en0 etm => ?_; clear en4
       have m4 := m3.keep (σ' := σ4) fun q w1 w2 => k4 _ _ _ q w1 w2
       have hu4 := k4 _ _ _ hu3' (by decide) (by decide)
       have hR4 := hR3.keep (σ' := σ4) (fun q => k4 _ _ _ q (by decide) (by decide)) (fun q => k4 _ _ _ q (by decide) (by decide))
       refine Wc (WS.setItem (fun _ _ _ => rfl) (WE.callP (by kernel_rfl) g_Wheel (Callee.cls mi_Wheel) PN rfl ?_))
       refine Wf (make_wheelF (21 + N) fun W d' σ5 nW nd hw5 e5 => ?_)
       have m5 := m4.keep (σ' := σ5) fun q _ _ => e5 _ _ q
       have hdm5 := m5.dic
       have hu5 := e5 _ _ hu4
       have nn : r.name ∉ tn2.map (·.name) := by rw [nm2]; exact hntm
       have ng : 21 + N ∉ tn2.map (·.g) := fun hm => by
        refine eEA (Mm hm) fun v hv ev => ?_
        have := gk2 v hv
        omega
       have m6 := m5.add hw5 nn ng (by omega) (by omega)
       have ep : putK (tents tn2) r.name (.ref W) = tents (tn2 ++ [⟨r.name, W, d', 21 + N, 0, []⟩]) := by
        rw [putK_no (by rw [tents_names]; exact nn)]
        unfold tents
        rw [List.map_append]; rfl
       refine WE.lo ?_
       refine PE.use (Px PE.cellA ‹_› ‹_›) ?_
       refine WPut.sdict hdm5 (by unfold tents; rw [List.length_map]; omega) ?_
       rw [ep]
       have k6 : ∀ {a t o}, σ5 a = some (t, o) -> t ≠ 2 -> (σ5.put dm 2 (.sdict (tents (tn2 ++ [⟨r.name, W, d', 21 + N, 0, []⟩])))) a = some (t, o) := fun q w => Hp.tag hdm5 w q
       have h6 : HouseD (σ5.put dm 2 (.sdict (tents (tn2 ++ [⟨r.name, W, d', 21 + N, 0, []⟩])))) H dw da tm' ab' := h4.keep (fun q => k6 (e5 _ _ q) (by decide)) (fun q w => k6 (e5 _ _ q) (by omega))
       refine Wn (Wn ?_)
       refine hKS _ _ ⟨(iE4 tm' _ ab' ({ r with up := up1, team := true }) ⟨h6, m6, ?_, (eS true) ▸ rel4, hR4.keep (fun q => k6 (e5 _ _ q) (by decide)) (fun q => k6 (e5 _ _ q) (by decide)), by rw [hh]; exact k6 hu5 (by decide), bd4, fun t ht => ?_, ?_, rfl, rfl, sh0, sh1, fun a t o q w1 w2 w7 w20 => k6 (e5 _ _ (k4 _ _ _ (kp3 _ _ _ q w1 w2 w7 w20) w1 (by omega))) w2⟩), by walk_at "lk"⟩
       · rw [etm, List.map_append, List.map_append, ent_det d.cor d.h.tn en0 en2]; rfl
       · rcases List.mem_append.mp ht with q | q
         · exact Nat.lt_succ_of_lt (gk2 t q)
         · rw [List.mem_singleton.mp q]; exact Nat.lt_succ_self _
       · subst etm
         intro m q hm h1 h2 t0 ht0 x0 hx0 ex
         rcases List.mem_append.mp ht0 with w' | w'
         · exact rdy_ent (y := { r with up := up1, team := true, rdy := false, here := !r.here }) d.rdyM d.rel.tr hk (d.uq hk) hna en0 rfl rfl m q hm h1 h2 t0 w' x0 hx0 ex
         · rw [List.mem_singleton.mp w'] at hx0; exact nomatch hx0
    rintro ρ' σ2 ⟨⟨tm', tn', ab', y, E⟩, r0⟩
    have hrow := E.row
    have hyh := E.yh
    have E4 := E.done d hk hu
    rw [hyh, hh] at hrow
    refine Wc (WS.setItem (fun _ _ _ => rfl) (WE.bool (WE.cellA (by kernel_rfl) (by kernel_rfl) (by walk_at "lk") ?_)))
    refine WE.int (WPut.list hrow (by decide) (by simp) (by simp) ?_)
    have hrow2 : (σ2.put u 7 (.list ([MV.str y.name, .str y.up, .int y.share, .bool y.team, .bool y.rdy, .bool false].set (Int.toNat 4) (.bool false)))) u = some (7, .list [MV.str y.name, .str y.up, .int y.share, .bool y.team, .bool false, .bool false]) := Hp.self
    have hz5 : [MV.str y.name, .str y.up, .int y.share, .bool y.team, .bool false, .bool false][Int.toNat 5]? = some (.bool false) := rfl
    refine Wc (WS.setItem (fun _ _ _ => rfl) (WE.unary (PE.use (Px PE.cellA ‹_› ‹_›) ?_)))
    refine WU.not ?_
    refine Wb (WE.cellA (by kernel_rfl) (by kernel_rfl) (by walk_at "lk") ?_)
    refine WE.int (WPut.list hrow2 (by decide) (by simp) (by simp) ?_)
    rw [Hp.put_put]
    refine WSs.retP PE.bool ?_
    have ew : rowW { y with rdy := false, here := !r.here } = [MV.str y.name, .str y.up, .int y.share, .bool y.team, .bool false, .bool false].set (Int.toNat 5) (.bool (!false)) := by rw [hh]; rfl
    rw [ew] at E4
    exact hq _ _ _ _ _ E4.1 (by rw [List.length_set]) E4.2
  · have hgt := getK_noteam hin
    refine Wc (WS.ite (WT.bool (WA.and (PT.use (PT.not (PT.plain (fun _ _ => rfl) (Px PE.cellA ‹_› ‹_›))) ?_))))
    refine if_nf ?_
    refine WA.and (WT.cmp1 rfl (PE.use (Px PE.cellA ‹_› ‹_›) ?_))
    refine WE.lo ?_
    refine WC.notInS_f ‹_› ‹_› ?_
    refine Wb (if_tt (WA.and_nil (if_tt (WSs.retP PE.bool ?_))))
    refine hq tm tn ab (R.set k { r with up := up1 }) σ1 ?_ (by rw [List.length_set]) kp1
    refine ⟨h1, m1, d.cor, rel1, hR1, ⟨fun m q h => ?_⟩, by rw [List.length_set]; exact hl, d.bd.up (Nat.le_succ _), fun t ht => Nat.lt_succ_of_lt (d.gk t ht), fun m q h h1 h2 i t j x a1 a2 a3 => ?_, fun m q h h1 => ?_, fun m q h => ?_⟩
    · rcases set5 hk h with ⟨rfl, rfl⟩ | ⟨_, h⟩
      · exact d.ok.nm m r hk
      · exact d.ok.nm m q h
    · rcases set5 hk h with ⟨rfl, rfl⟩ | ⟨_, h⟩
      · have h1 : r.here = true := h1
        rw [hh] at h1; exact nomatch h1
      · exact d.rdy m q h h1 h2 i t j x a1 a2 a3
    · rcases set5 hk h with ⟨rfl, rfl⟩ | ⟨_, h⟩
      · exact d.rt m r hk (.inr hh)
      · exact d.rt m q h h1
    · rcases set5 hk h with ⟨rfl, rfl⟩ | ⟨_, h⟩
      · exact d.sh m r hk
      · exact d.sh m q h
theorem anyR_false {l : List Shr} (h : ∀ x ∈ l, x.ready = false) : anyR l = false := by
 unfold anyR
 rw [List.any_eq_false]
 intro x hx
 rw [h x hx]; decide
theorem lready_c {s : Int} {H dw da dm B N : Nat} {ts : List Nat} {tm tn : List Team} {ab : List (Str × Str)} {R : List Row5} (d : Rd10 s σ H dw da dm B ts N tm tn ab R) : ∀ (e : Nat) {k : Nat} {t : Team}, tm.length - k <= e -> tm[k]? = some t -> ∀ {n : Nat} {sc : Scope} {ρ : Lo} {Q : MV -> Hp -> Prop} {X : EX}, Q (.bool (anyR t.l)) σ -> WFn (cx w mean mg mb) ⟨n + e + 1, true, sc⟩ a_law_ready [.ref B, .str t.name] ρ Q X σ := by
 have hl := d.rl
 have tl := d.rows.len
 have hB := d.rows.lst
 have rl4 : (R.map Row5.to4).length <= 26 := by rw [to4_len]; exact Nat.le_trans ‹_› (by decide)
 intro e
 induction e with
 | zero =>
  intro k t h1 h2
  have := (Gs h2).1
  omega
 | succ e ih =>
  intro k t hke hk n sc ρ Q X hq
  have hmt := Mg hk
  refine WFn.fn2 (p1 := "_law_rows") (p2 := "_law_name") (FnAt.of2 (rfl : (Mine.hd.heap_39 w.params).lookup a_law_ready = _) (by kernel_rfl) (fun _ _ => rfl) (by kernel_rfl)) ?_
  refine Wc (WS.for rfl (fun _ _ => rfl) ?_)
  refine WE.lo ?_
  refine (iEEA _ _ (Iterable.list (ListAt.own hB)) ?_)
  refine WFor.byIdx (fun j ρ' σ' => σ' = σ /\ (∀ (m : Nat) (q : Row5), m < j -> R[m]? = some q -> q.here = true -> q.up = t.name -> ∀ x ∈ t.l, x.name = q.name -> x.ready = false) /\ ρ' "_law_rows" = some (.ref B) /\ ρ' "_law_name" = some (.str t.name)) ?_ ?_ ?_
  · exact (iA3 rfl (fun m q h => absurd h (Nat.not_lt_zero _)) (by walk_at "lk") (by walk_at "lk"))
  · rintro j v ρ' σ' hv ⟨rfl, hinv, r0, r1⟩
    refine ⟨ListAt.own hB, ?_⟩
    rw [List.getElem?_map] at hv
    refine eEA (Option.map_eq_some_iff.mp hv) fun u hu z1' => ?_; subst z1'
    refine eEA (d.rows.row.get hu) fun q hqj hqu => ?_
    have hqu : σ' u = some (7, .list [.str q.name, .str q.up, .int q.share, .bool q.team, .bool q.rdy, .bool q.here]) := hqu
    have go : (q.here = true -> q.up = t.name -> ∀ x ∈ t.l, x.name = q.name -> x.ready = false) -> ∀ (m : Nat) (q : Row5), m < j + 1 -> R[m]? = some q -> q.here = true -> q.up = t.name -> ∀ x ∈ t.l, x.name = q.name -> x.ready = false := fun h m q' hm hq' => by
     by_cases e' : m = j
     · subst e'
       rw [Oi (hq'.symm.trans hqj)]; exact h
     · exact hinv m q' (by omega) hq'
    have z0 : [MV.str q.name, .str q.up, .int q.share, .bool q.team, .bool q.rdy, .bool q.here][Int.toNat 0]? = some (.str q.name) := rfl
    have z1 : [MV.str q.name, .str q.up, .int q.share, .bool q.team, .bool q.rdy, .bool q.here][Int.toNat 1]? = some (.str q.up) := rfl
    have z3 : [MV.str q.name, .str q.up, .int q.share, .bool q.team, .bool q.rdy, .bool q.here][Int.toNat 3]? = some (.bool q.team) := rfl
    have z4 : [MV.str q.name, .str q.up, .int q.share, .bool q.team, .bool q.rdy, .bool q.here][Int.toNat 4]? = some (.bool q.rdy) := rfl
    have z5 : [MV.str q.name, .str q.up, .int q.share, .bool q.team, .bool q.rdy, .bool q.here][Int.toNat 5]? = some (.bool q.here) := rfl
    by_cases cu : q.up = t.name
    · have bu : (q.up == t.name) = true := beq_iff_eq.mpr cu
      cases hh : q.here with
      | false =>
       rw [hh] at hqu z0 z1 z3 z4 z5
       refine Wl (by kernel_rfl) ?_
       refine WSs.skipP (PT.boolop (PA.andT (PT.cmp1 rfl (Px PL ‹_› ‹_›) PL PC.eqS) ‹_› (PA.andF (PT.plain (fun _ _ => rfl) (Px PL ‹_› ‹_›)) rfl))) rfl ?_
       refine Wn ?_
       exact (iA3 rfl (go (fun w => by rw [hh] at w; exact (nomatch w))) (by walk_at "lk") (by walk_at "lk"))
      | true =>
       rw [hh] at hqu z0 z1 z3 z4 z5
       refine eE6 (d.place hqj hh) fun i t0 j0 x0 _ _ y0' => eA4 y0' fun p1 p2 p3 p4 _ => ?_
       have : i = k := nodup_at d.h.tn p1 hk (p2.trans cu)
       subst this
       have : t0 = t := Oi (p1.symm.trans hk)
       subst this
       have xu : ∀ x ∈ t0.l, x.name = q.name -> x.ready = x0.ready := fun x hx ex => by
        obtain ⟨m, hm⟩ := Mi hx
        have := nodup_at ((d.h.whl t0 hmt).nn) hm p3 (ex.trans p4.symm)
        subst this
        rw [Oi (hm.symm.trans p3)]
       cases hr : q.rdy with
       | true =>
        rw [hr] at hqu z0 z1 z3 z4 z5
        have ht : q.team = false := by
         cases w : q.team with
         | false => rfl
         | true => have := d.rt j q hqj (.inl w); rw [hr] at this; exact nomatch this
        have xr : x0.ready = true := (d.rdy j q hqj hh ht i t0 j0 x0 p1 p3 p4).trans hr
        have ha : anyR t0.l = true := anyR_mem p3 xr
        rw [ha] at hq
        refine Wl (by kernel_rfl) ?_
        refine WSs.thenP (PT.boolop (PA.andT (PT.cmp1 rfl (Px PL ‹_› ‹_›) PL PC.eqS) ‹_› (PA.andT (PT.plain (fun _ _ => rfl) (Px PL ‹_› ‹_›)) rfl (PA.andT (PT.boolop (PA.orT (PT.plain (fun _ _ => rfl) (Px PL ‹_› ‹_›)) rfl)) rfl PA.andN)))) rfl ?_
        refine WSs.retP PE.bool ?_
        exact hq
       | false =>
        rw [hr] at hqu z0 z1 z3 z4 z5
        cases ht : q.team with
        | false =>
         rw [ht] at hqu z0 z1 z3 z4 z5
         have xr : x0.ready = false := (d.rdy j q hqj hh ht i t0 j0 x0 p1 p3 p4).trans hr
         refine Wl (by kernel_rfl) ?_
         refine WSs.skipP (PT.boolop (PA.andT (PT.cmp1 rfl (Px PL ‹_› ‹_›) PL PC.eqS) ‹_› (PA.andT (PT.plain (fun _ _ => rfl) (Px PL ‹_› ‹_›)) rfl (PA.andF (PT.boolop (PA.orF (PT.plain (fun _ _ => rfl) (Px PL ‹_› ‹_›)) rfl (PA.orF (PT.boolop (PA.andF (PT.plain (fun _ _ => rfl) (Px PL ‹_› ‹_›)) rfl)) rfl PA.orN))) rfl)))) rfl ?_
         refine Wn ?_
         exact (iA3 rfl (go fun _ _ x hx ex => (xu x hx ex).trans xr) (by walk_at "lk") (by walk_at "lk"))
        | true =>
         rw [ht] at hqu z0 z1 z3 z4 z5
         refine eEA (Mm ((team_of d.rel d.ok.to4 rl4 (to4_at hqj)).mpr ⟨hh, ht⟩)) fun v hv' ev => ?_
         have ev : v.name = q.name := ev
         obtain ⟨k', hk'⟩ := Mi hv'
         have hab := d.rel.tr.mem i t0 j0 x0 p1 p3
         have kpos : i < k' := by
          have : 0 < k' := Nat.pos_of_ne_zero fun w => by
           subst w
           refine eEA d.rel.tr.root fun t2 e1 e2 => ?_
           have : v = t2 := Oi (hk'.symm.trans e1)
           subst this
           exact d.rel.tr.top (Mn (iEA _ hab (by rw [p4, <- ev, e2])))
          refine eEEEEAAAA (d.rel.tr.up k' v hk' this) fun k5 u5 j5 y5 lt5 hu5 _ hj5 hy5 => ?_
          have := uniq d.rel.tr d.h.an d.h.tn p1 p3 hu5 hj5 (by rw [hy5, ev, p4])
          omega
         have xr : x0.ready = anyR v.l := d.rel.lk k' v i t0 j0 x0 hk' (fun w => w) (by rw [ev, <- p4]; exact hab) p1 p3 (p4.trans ev.symm)
         have hkl := (Gs hk').1
         refine Wl (by kernel_rfl) ?_
         refine Wc (WS.ite (WT.bool (WA.and (PT.use (PT.cmp1 rfl (Px PL ‹_› ‹_›) PL PC.eqS) ?_))))
         refine if_pt ‹_› ?_
         refine WA.and (PT.use (PT.plain (fun _ _ => rfl) (Px PL ‹_› ‹_›)) ?_)
         refine if_tt (WA.and (WT.bool (WA.or (PT.use (PT.plain (fun _ _ => rfl) (Px PL ‹_› ‹_›)) ?_))))
         refine if_ff (WA.or (WT.bool (WA.and (PT.use (PT.plain (fun _ _ => rfl) (Px PL ‹_› ‹_›)) ?_))))
         refine if_tt (WA.and (WT.plain (fun _ _ => rfl) (WE.cp g_law_ready fn_law_ready (Po PL (Po (Px PL ‹_› ‹_›) PN)) ?_)))
         rw [<- ev]
         refine Wf (ih (by omega) hk' ?_)
         cases ha : anyR v.l with
         | true =>
          have ha2 : anyR t0.l = true := anyR_mem p3 (xr.trans ha)
          rw [ha2] at hq
          refine Wb (if_tt (WA.and_nil (if_tt (if_tt (WA.and_nil (if_tt (WSs.retP PE.bool ?_)))))))
          exact hq
         | false =>
          refine Wb (if_ff (if_ff (WA.or_nil (if_ff (if_ff (Wn (Wn ?_)))))))
          exact (iA3 rfl (go fun _ _ x hx ex => (xu x hx ex).trans (xr.trans ha)) (by walk_at "lk") (by walk_at "lk"))
    · have bu : (q.up == t.name) = false := beq_eq_false_iff_ne.mpr cu
      refine Wl (by kernel_rfl) ?_
      refine WSs.skipP (PT.boolop (PA.andF (PT.cmp1 rfl (Px PL ‹_› ‹_›) PL PC.eqS) ‹_›)) rfl ?_
      refine Wn ?_
      exact (iA3 rfl (go fun _ w => absurd w cu) (by walk_at "lk") (by walk_at "lk"))
  · rintro ρ' σ' ⟨rfl, hinv, r0, r1⟩
    refine ⟨ListAt.own hB, ?_⟩
    have ha : anyR t.l = false := anyR_false fun x hx => by
     obtain ⟨j, hj⟩ := Mi hx
     refine eEEAA ((d.rel.abm _).mp (d.rel.tr.mem k t j x hk hj)) fun m q4 c1 c2 c3 => ?_
     refine eEA (to4_back c1) fun q hqm z1' => ?_; subst z1'
     have hml := (Gs hqm).1
     exact hinv m q (by rw [List.length_map, tl]; exact hml) hqm c2 (congrArg (·.2) c3).symm x hx (congrArg (·.1) c3)
    rw [ha] at hq
    refine WSs.retP PE.bool ?_
    exact hq
def ItAt (σ : Hp) (v : MV) : Int ⊕ (Str × Int × Int × Bool) -> Prop
 | .inl p => v = .int p
 | .inr c => ∃ u, v = .ref u /\ σ u = some (8, .tuple [.str c.1, .int c.2.1, .int c.2.2.1, .bool c.2.2.2])
theorem ItAt.keep {σ σ' : Hp} {v : MV} {i : Int ⊕ (Str × Int × Int × Bool)} (h : ItAt σ v i) (k : ∀ {a o}, σ a = some (8, o) -> σ' a = some (8, o)) : ItAt σ' v i := by
 cases i with
 | inl p => exact h
 | inr c => refine eEA h fun u h1 h2 => ?_; clear h; exact (iEA u h1 (k h2))
theorem its_eq {c : Cx} {σ : Hp} {vs : List MV} {is : List (Int ⊕ (Str × Int × Int × Bool))} (h : All2 (ItAt σ) vs is) : ∀ {vs' : List MV}, All2 (ItAt σ) vs' is -> EqVs c σ 1 vs vs' := by
 induction h with
 | nil => intro vs' h; cases h; exact .nil
 | @cons v i l m r _ ih =>
  intro vs' h
  cases h with | cons r' h' =>
  refine .cons ?_ (ih h')
  cases i with
  | inl p => cases r; cases r'; exact EqV.intT rfl
  | inr c =>
   refine eEA r fun u z1' h1 => ?_; clear r; subst z1'
   refine eEA r' fun u' z1' h2 => ?_; clear r'; subst z1'
   exact EqV.of_rc (RcV.tupT (k := 0) h1 h2 (.cons (EqV.strT rfl) (.cons (EqV.intT rfl) (.cons (EqV.intT rfl) (.cons (EqV.boolT rfl) .nil)))))
theorem told10_c {W d g : Nat} {past : Int} {l : List Shr} (h : WheelD σ W d g past l) (g4 : g ≠ 4) (hz : l.length <= 1000)
 (hq : ∀ L vs σ', σ' L = some (4, .list (.int past :: vs)) -> All2 (ItAt σ') vs (l.map fun x => .inr (core x)) -> Extd σ σ' -> Q (.ref L) σ') : WFn (cx w mean mg mb) ⟨n + 3, true, sc⟩ a_law_told [.ref W] ρ Q X σ := by
 have hW : σ W = some (g, .inst a_Wheel [("past", .int past), ("sharers", .ref d)]) := h.whl
 refine WFn.fn1 (p1 := "_law_wheel") (FnAt.of1 (rfl : (Mine.hd.heap_39 w.params).lookup a_law_told = _) (by kernel_rfl) (fun _ => rfl) (by kernel_rfl)) ?_
 refine Wc (WS.assign (fun _ _ _ => rfl) (WE.list 4 ?_))
 refine PEs.use (Po (PE.at PL ‹_› lk_head) PN) ?_
 refine ⟨by simp, fun L hL => ?_⟩
 have nL : σ L = Option.none := hL.none
 have e1 : Extd σ (σ.put L 4 (.list [.int past])) := fun a p q => Hp.new hL.none q
 have hL1 : (σ.put L 4 (.list [.int past])) L = some (4, .list [.int past]) := Hp.self
 generalize σ.put L 4 (.list [.int past]) = σ1 at e1 hL1 ⊢
 clear hL
 have h1 := h.keep (σ' := σ1) ⟨fun a o q => e1 _ _ q⟩
 have hW1 := e1 _ _ hW
 refine Wl (by kernel_rfl) ?_
 refine Wc (WS.for rfl (fun _ _ => rfl) ?_)
 refine WE.mp PL ‹_› ms_Wheel_names PN ?_
 refine Wf (names_c 9 h1 (Nat.le_trans ‹_› (by decide)) fun M hM => ?_)
 refine (iEEA _ _ (Iterable.list (ListAt.own Hp.self)) ?_)
 refine WFor.byIdxO (fun m ρ' σ' => (∃ vs, σ' L = some (4, .list (.int past :: vs)) /\ All2 (ItAt σ') vs ((l.take m).map fun x => .inr (core x)) /\ vs.length <= m) /\ Extd σ σ' /\ σ' M = some (9, .list ((l.map (·.name)).map .str)) /\ ρ' "_law_wheel" = some (.ref W) /\ ρ' "_law_told_here" = some (.ref L)) ?_ ?_ ?_
 · exact (iA4 (iEAA ([]) (Hp.new hM.none hL1) (.nil) (Nat.zero_le _)) (fun a p q => Hp.new hM.none (e1 _ _ q)) Hp.self (by walk_at "lk") (by walk_at "lk"))
 · clear h1 hW1 hL1 e1 hM
   rintro m v ρ' σ2 hv ⟨⟨vs, hL2, hvs, vl⟩, e2, hM2, r0, r1⟩
   refine ⟨ListAt.own hM2, ?_⟩
   intro KL hKL
   rw [List.getElem?_map, List.getElem?_map] at hv
   refine eEA (Option.map_eq_some_iff.mp hv) fun nm hnm z1' => ?_; subst z1'
   refine eEA (Option.map_eq_some_iff.mp hnm) fun x hx z1' => ?_; subst z1'
   have ml : m < 1000 := Nat.lt_of_lt_of_le (Gs hx).1 hz
   have h2 := h.keep (σ' := σ2) ⟨fun a o q => e2 _ _ q⟩
   have hW2 := e2 _ _ hW
   refine Wl (by kernel_rfl) ?_
   refine Wc (WS.expr (fun _ _ _ => rfl) (WE.method (fun _ _ => rfl) rfl rfl rfl (WE.lo ?_)))
   refine WM.listAppend hL2 ?_
   refine And.intro (Callee.con rfl) (WEs.cons rfl (WE.tuple 8 ?_))
   refine WEs.cons rfl (WE.lo ?_)
   refine WEs.cons rfl (WE.mp PL ‹_› ms_Wheel_share_of (Po PL PN) ?_)
   refine Wf (share_c h2 hx ?_)
   refine WEs.cons rfl (WE.mp PL ‹_› ms_Wheel_clock_of (Po PL PN) ?_)
   refine Wf (clock_c h2 hx ?_)
   refine WEs.cons rfl (WE.mp PL ‹_› ms_Wheel_is_ready (Po PL PN) ?_)
   refine Wf (ready_c h2 hx ?_)
   refine WEs.nil (⟨by simp, fun u hu => ?_⟩)
   refine WEs.nil ?_
   refine WCall.append (Hp.new hu.none hL2) (by simp; omega) ?_
   have k3 : ∀ {a t o}, σ2 a = some (t, o) -> t ≠ 4 -> ((σ2.put u 8 (.tuple [.str x.name, .int x.share, .int x.clock, .bool x.ready])).put L 4 (.list (.int past :: vs ++ [.ref u]))) a = some (t, o) := fun q n4 => Hp.tag (Hp.new hu.none hL2) n4 (Hp.new hu.none q)
   refine Wn ?_
   refine hKL _ _ (iA4 (iEAA (vs ++ [.ref u]) Hp.self ?_ (by rw [List.length_append]; exact Nat.succ_le_succ vl)) (fun a p q => Hp.ne (fun e' => by rw [e', nL] at q; exact nomatch q) (Hp.new hu.none (e2 _ _ q))) (k3 hM2 (by decide)) (by walk_at "lk") (by walk_at "lk"))
   rw [List.take_add_one, hx, List.map_append]
   exact (hvs.imp fun _ _ q => ItAt.keep q fun q => k3 q (by decide)).append (.cons (iEA u rfl (Hp.tag (Hp.new hu.none hL2) (by decide) Hp.self)) .nil)
 · rintro ρ' σ2 ⟨⟨vs, hL2, hvs, vl⟩, e2, hM2, r0, r1⟩
   refine ⟨ListAt.own hM2, ?_⟩
   refine WSs.retP PL ?_
   refine hq L vs σ2 hL2 ?_ e2
   rw [List.length_map, List.length_map, List.take_length] at hvs
   exact hvs
theorem all_ready_c {s : Int} {H dw da dm B N : Nat} {ts : List Nat} {tm tn : List Team} {ab : List (Str × Str)} {R : List Row5} (d : Rd10 s σ H dw da dm B ts N tm tn ab R) (hN : N <= 100) (hq : ∀ σ', Extd σ σ' -> Q (.bool true) σ') : WFn (cx w mean mg mb) ⟨n + 110, true, sc⟩ a_law_all_ready [.ref H, .ref B] ρ Q X σ := by
 have hl := d.rl
 have tl := d.rows.len
 have hB := d.rows.lst
 have rl4 : (R.map Row5.to4).length <= 26 := by rw [to4_len]; exact Nat.le_trans ‹_› (by decide)
 refine WFn.fn2 (p1 := "_law_house") (p2 := "_law_rows") (FnAt.of2 (rfl : (Mine.hd.heap_39 w.params).lookup a_law_all_ready = _) (by kernel_rfl) (fun _ _ => rfl) (by kernel_rfl)) ?_
 refine Wc (WS.for rfl (fun _ _ => rfl) ?_)
 refine WE.lo ?_
 refine (iEEA _ _ (Iterable.list (ListAt.own hB)) ?_)
 refine WFor.byIdxO (fun j ρ' σ' => Extd σ σ' /\ ρ' "_law_house" = some (.ref H) /\ ρ' "_law_rows" = some (.ref B)) ?_ ?_ ?_
 · exact (iA2 (fun _ _ q => q) (by walk_at "lk") (by walk_at "lk"))
 · rintro j v ρ' σ1 hv ⟨e1, r0, r1⟩
   refine ⟨ListAt.own (e1 _ _ hB), ?_⟩
   intro KL hKL
   rw [List.getElem?_map] at hv
   refine eEA (Option.map_eq_some_iff.mp hv) fun u hu z1' => ?_; subst z1'
   refine eEA (d.rows.row.get hu) fun q hqj _ => ?_
   have d1 := d.ext e1
   have hqu := d1.row hqj hu
   have hHo := d1.h.hou
   have z0 : [MV.str q.name, .str q.up, .int q.share, .bool q.team, .bool q.rdy, .bool q.here][Int.toNat 0]? = some (.str q.name) := rfl
   have z1 : [MV.str q.name, .str q.up, .int q.share, .bool q.team, .bool q.rdy, .bool q.here][Int.toNat 1]? = some (.str q.up) := rfl
   have z3 : [MV.str q.name, .str q.up, .int q.share, .bool q.team, .bool q.rdy, .bool q.here][Int.toNat 3]? = some (.bool q.team) := rfl
   have z4 : [MV.str q.name, .str q.up, .int q.share, .bool q.team, .bool q.rdy, .bool q.here][Int.toNat 4]? = some (.bool q.rdy) := rfl
   have z5 : [MV.str q.name, .str q.up, .int q.share, .bool q.team, .bool q.rdy, .bool q.here][Int.toNat 5]? = some (.bool q.here) := rfl
   cases hh : q.here with
   | false =>
    rw [hh] at hqu z0 z1 z3 z4 z5
    refine Wl (by kernel_rfl) ?_
    refine WSs.skipP (PT.plain (fun _ _ => rfl) (Px PL ‹_› ‹_›)) rfl ?_
    refine Wn ?_
    exact hKL _ _ (iA2 e1 (by walk_at "lk") (by walk_at "lk"))
   | true =>
    rw [hh] at hqu z0 z1 z3 z4 z5
    refine eE6 (d.place hqj hh) fun i t j0 x _ _ y0' => eA4 y0' fun p1 p2 p3 p4 _ => ?_
    have hmt := Mg p1
    refine Wl (by kernel_rfl) ?_
    refine WSs.thenP (PT.plain (fun _ _ => rfl) (Px PL ‹_› ‹_›)) rfl ?_
    refine Wc (WS.assign (fun _ _ _ => rfl) (WE.method (fun _ _ => rfl) rfl rfl rfl (WE.mp PL ‹_› ms_House_wheel_of (Po (Px PL ‹_› ‹_›) PN) ?_)))
    rw [<- p2]
    refine Wf (wheel_of_ok 15 d1.h hmt (d.rel.sh t hmt).1 fun W' d' l' σ2 hw hc e2 => ?_)
    refine eEA (core_at hc p3) fun x' c1 c2 => ?_
    have cn : x'.name = q.name := (show x'.name = x.name from congrArg (·.1) c2).trans p4
    have cr : x'.ready = x.ready := congrArg (·.2.2.2) c2
    have hqu2 := e2 _ _ hqu
    have hW : σ2 W' = some (15, .inst a_Wheel [("past", .int t.past), ("sharers", .ref d')]) := hw.whl
    have e12 : Extd σ σ2 := fun a p w => e2 _ _ (e1 _ _ w)
    refine WM.inst ‹_› ms_Wheel_is_ready (by kernel_rfl) ?_
    refine And.intro (Callee.meth ms_Wheel_is_ready) ?_
    refine PEs.use (Po (Px PL ‹_› ‹_›) PN) ?_
    rw [<- cn]
    refine Wf (ready_c hw c1 ?_)
    rw [cr]
    have bb : (x.ready != x.ready) = false := bne_self_eq_false ..
    cases ht : q.team with
    | false =>
     rw [ht] at hqu2 z0 z1 z3 z4 z5
     have xr : x.ready = q.rdy := d.rdy j q hqj hh ht i t j0 x p1 p3 p4
     rw [<- xr] at hqu2 z0 z1 z3 z4 z5
     refine Wl (by kernel_rfl) ?_
     refine Wc (WS.assign (fun _ _ _ => rfl) (WE.ifexp ?_))
     refine PT.use (PT.plain (fun _ _ => rfl) (Px PL ‹_› ‹_›)) ?_
     refine if_ff (PE.use (Px PL ‹_› ‹_›) ?_)
     refine Wl (by kernel_rfl) ?_
     refine Wc (WS.ite (WT.bool (WA.or (WT.not (WT.plain (fun _ _ => rfl) (WE.callP (by kernel_rfl) g_isinstance (Callee.con rfl) (Po PL (Po (PE.globalA (by kernel_rfl) g_bool) PN)) rfl ?_))))))
     refine WCall.isinstance KindOf.bool k_bool_bool ?_
     refine Wb (if_nt ?_)
     refine WA.or (PT.use (PT.cmp1 rfl PL PL PC.neB) ?_)
     refine if_pf ‹_› ?_
     refine WA.or_nil (if_ff (Wn (Wn (Wn ?_))))
     exact hKL _ _ (iA2 e12 (by walk_at "lk") (by walk_at "lk"))
    | true =>
     rw [ht] at hqu2 z0 z1 z3 z4 z5
     refine eEA (Mm ((team_of d.rel d.ok.to4 rl4 (to4_at hqj)).mpr ⟨hh, ht⟩)) fun v hv' ev => ?_
     have ev : v.name = q.name := ev
     obtain ⟨k', hk'⟩ := Mi hv'
     have hab := d.rel.tr.mem i t j0 x p1 p3
     have xr : x.ready = anyR v.l := d.rel.lk k' v i t j0 x hk' (fun w => w) (by rw [ev, <- p4]; exact hab) p1 p3 (p4.trans ev.symm)
     have tmN := d.bd.tl
     refine Wl (by kernel_rfl) ?_
     refine Wc (WS.assign (fun _ _ _ => rfl) (WE.ifexp ?_))
     refine PT.use (PT.plain (fun _ _ => rfl) (Px PL ‹_› ‹_›)) ?_
     refine if_tt (WE.cp g_law_ready fn_law_ready (Po PL (Po (Px PL ‹_› ‹_›) PN)) ?_)
     rw [<- ev]
     refine Wf (lready_c (n := n + 8) (d.ext e12) 100 (by omega) hk' ?_)
     rw [<- xr]
     refine Wl (by kernel_rfl) ?_
     refine Wc (WS.ite (WT.bool (WA.or (WT.not (WT.plain (fun _ _ => rfl) (WE.callP (by kernel_rfl) g_isinstance (Callee.con rfl) (Po PL (Po (PE.globalA (by kernel_rfl) g_bool) PN)) rfl ?_))))))
     refine WCall.isinstance KindOf.bool k_bool_bool ?_
     refine Wb (if_nt ?_)
     refine WA.or (PT.use (PT.cmp1 rfl PL PL PC.neB) ?_)
     refine if_pf ‹_› ?_
     refine WA.or_nil (if_ff (Wn (Wn (Wn ?_))))
     exact hKL _ _ (iA2 e12 (by walk_at "lk") (by walk_at "lk"))
 · rintro ρ' σ1 ⟨e1, r0, r1⟩
   refine ⟨ListAt.own (e1 _ _ hB), ?_⟩
   refine WSs.retP PE.bool ?_
   exact hq σ1 e1
theorem good_c {s way : Int} {H dw da dm B N : Nat} {ts : List Nat} {tm tn : List Team} {ab : List (Str × Str)} {R : List Row5} (d : Rd10 s σ H dw da dm B ts N tm tn ab R) (hN : N <= 100) (hq : ∀ σ', Extd σ σ' -> Q (.bool true) σ') : WFn (cx w mean mg mb) ⟨n + 111, true, sc⟩ a_law_good [.ref H, .ref B, .ref dm, .int way] ρ Q X σ := by
 have nlen : tn.length = tm.length := by have := congrArg List.length d.cor; rwa [List.length_map, List.length_map] at this
 have tmN := d.bd.tl
 have tlz : (tents tn).length = tn.length := List.length_map ..
 refine WFn.fn4 (p1 := "_law_house") (p2 := "_law_rows") (p3 := "_law_wheels") (p4 := "_law_way") (FnAt.of4 (rfl : (Mine.hd.heap_39 w.params).lookup a_law_good = _) (by kernel_rfl) (fun _ _ _ _ => rfl) (by kernel_rfl)) ?_
 by_cases c4 : way.fmod 5 = 4
 · skip
   refine WSs.thenP (PT.cmp1 rfl (PE.binop PL PE.int (PB.mod (by decide))) PE.int PC.eqI) (b_et ‹_›) ?_
   refine WSs.retP PE.bool ?_
   exact hq σ fun _ _ q => q
 · have b4 : (way.fmod 5 == 4) = false := beq_eq_false_iff_ne.mpr c4
   refine WSs.skipP (PT.cmp1 rfl (PE.binop PL PE.int (PB.mod (by decide))) PE.int PC.eqI) ‹_› ?_
   refine WSs.splitO (fun ρ' σ' => Extd σ σ' /\ ρ' "_law_house" = some (.ref H) /\ ρ' "_law_rows" = some (.ref B) /\ ρ' "_law_wheels" = some (.ref dm) /\ ρ' "_law_way" = some (.int way)) ?_ ?_
   · intro KS hKS
     by_cases c1 : (way.fdiv 5).fmod 2 = 1
     · skip
       refine WS.ite (WT.bool (WA.and (PT.use (PT.cmp1 rfl (PE.binop (PE.binop PL PE.int (PB.div (by decide) (by decide))) PE.int (PB.mod (by decide))) PE.int PC.eqI) ?_)))
       refine if_et ‹_› ?_
       refine WA.and (WT.not (WT.plain (fun _ _ => rfl) (WE.cp g_law_all_ready fn_law_all_ready (Po PL (Po PL PN)) ?_)))
       refine Wf (all_ready_c (n := n) d hN fun σ1 e1 => ?_)
       refine Wb (if_nt ?_)
       refine if_ff (Wn ?_)
       exact hKS _ _ (iA4 e1 (by walk_at "lk") (by walk_at "lk") (by walk_at "lk") (by walk_at "lk"))
     · have b1 : ((way.fdiv 5).fmod 2 == 1) = false := beq_eq_false_iff_ne.mpr c1
       refine WS.ite (PT.use (PT.boolop (PA.andF (PT.cmp1 rfl (PE.binop (PE.binop PL PE.int (PB.div (by decide) (by decide))) PE.int (PB.mod (by decide))) PE.int PC.eqI) ‹_›)) ?_)
       refine if_ff (Wn ?_)
       exact hKS _ _ (iA4 (fun _ _ q => q) (by walk_at "lk") (by walk_at "lk") (by walk_at "lk") (by walk_at "lk"))
   rintro ρ1 σ1 ⟨e1, r0, r1, r2, r3⟩
   have hdm1 := e1 _ _ d.m.dic
   refine Wc (WS.for rfl (fun _ _ => rfl) ?_)
   refine WE.sub (WE.list 9 ?_)
   refine WEs.cons rfl (WE.callP (by kernel_rfl) g_list (Callee.con rfl) (Po PL PN) rfl ?_)
   refine WCall.listKeys 9 rfl hdm1 (by rw [tlz]; omega) fun b1 hb1 => ?_
   have hK1 : (σ1.put b1 9 (.list ((tents tn).map fun p => MV.str p.1))) b1 = some (9, .list ((tents tn).map fun p => MV.str p.1)) := Hp.self
   have e2 : Extd σ (σ1.put b1 9 (.list ((tents tn).map fun p => MV.str p.1))) := fun a p q => Hp.new hb1.none (e1 _ _ q)
   generalize σ1.put b1 9 (.list ((tents tn).map fun p => MV.str p.1)) = σ2 at hK1 e2 ⊢
   clear hdm1 hb1 e1
   have hdm2 := e2 _ _ d.m.dic
   refine WEs.cons rfl (WE.reversedE 9 ?_)
   refine WE.callP (by kernel_rfl) g_list (Callee.con rfl) (Po PL PN) rfl ?_
   refine WCall.listKeys 9 rfl hdm2 (by rw [tlz]; omega) fun b2 hb2 => ?_
   refine WE.unary (WE.int (WU.neg ?_))
   refine (iE2 b2 _ (iA4 rfl rfl (ListAt.own Hp.self) (by rw [List.length_map, tlz]; omega) (fun b3 hb3 => ?_)))
   refine WEs.nil (⟨by simp, fun b4 hb4 => ?_⟩)
   have w0 := fmod_ge (way.fdiv 10) (show (1 : Int) <= 2 by decide)
   have w1 := fmod_lt (way.fdiv 10) (show (1 : Int) <= 2 by decide)
   have w2 : (way.fdiv 10).fmod 2 < 2 ^ 63 := by exact Int.lt_trans ‹_› (by decide)
   have e3 : Extd σ2 ((((σ2.put b2 9 (.list ((tents tn).map fun p => MV.str p.1))).put b3 9 (.list ((tents tn).map fun p => MV.str p.1).reverse)).put b4 9 (.list [.ref b1, .ref b3]))) := fun a p q => Hp.new hb4.none (Hp.new hb3.none (Hp.new hb2.none q))
   have h43 : ((((σ2.put b2 9 (.list ((tents tn).map fun p => MV.str p.1))).put b3 9 (.list ((tents tn).map fun p => MV.str p.1).reverse)).put b4 9 (.list [.ref b1, .ref b3]))) b3 = some (9, .list ((tents tn).map fun p => MV.str p.1).reverse) := Hp.new hb4.none Hp.self
   have h44 : ((((σ2.put b2 9 (.list ((tents tn).map fun p => MV.str p.1))).put b3 9 (.list ((tents tn).map fun p => MV.str p.1).reverse)).put b4 9 (.list [.ref b1, .ref b3]))) b4 = some (9, .list [.ref b1, .ref b3]) := Hp.self
   generalize (((σ2.put b2 9 (.list ((tents tn).map fun p => MV.str p.1))).put b3 9 (.list ((tents tn).map fun p => MV.str p.1).reverse)).put b4 9 (.list [.ref b1, .ref b3])) = σ3 at e3 h43 h44 ⊢
   clear hb2 hb3 hb4
   have h41 := e3 _ _ hK1
   obtain ⟨C, items, hC, hCx, hit⟩ : ∃ (C : Nat) (items : List MV), [MV.ref b1, .ref b3][((way.fdiv 10).fmod 2).toNat]? = some (.ref C) /\ σ3 C = some (9, .list items) /\ ∀ v ∈ items, ∃ t ∈ tn, v = .str t.name := by
    have mem : ∀ v ∈ ((tents tn).map fun p => MV.str p.1), ∃ t ∈ tn, v = .str t.name := fun v hv => by
     refine eEA (Mm hv) fun p hp z1' => ?_; subst z1'
     refine eEA (Mm hp) fun t ht z1' => ?_; subst z1'
     exact (iEA t ht rfl)
    have hc : (way.fdiv 10).fmod 2 = 0 ∨ (way.fdiv 10).fmod 2 = 1 := by omega
    rcases hc with q | q
    · exact (iEEAA b1 _ (by rw [q]; rfl) h41 mem)
    · exact (iEEAA b3 _ (by rw [q]; rfl) h43 (fun v hv => mem v (List.mem_reverse.mp hv)))
   have e4 : Extd σ σ3 := fun a p q => e3 _ _ (e2 _ _ q)
   clear e3 e2 hK1 h43 h41 hdm2
   refine PE.use (PE.binop (PE.binop PL PE.int (PB.div (by decide) (by decide))) PE.int (PB.mod (by decide))) ?_
   refine WSub.list (fun _ _ => rfl) (ListAt.own ‹_›) (by with_reducible assumption) (by with_reducible assumption) ‹_› ?_
   refine (iEEA _ _ (Iterable.list (ListAt.own hCx)) ?_)
   refine WFor.byIdxO (fun _ ρ' σ' => Extd σ σ' /\ σ' C = some (9, .list items) /\ ρ' "_law_house" = some (.ref H) /\ ρ' "_law_rows" = some (.ref B) /\ ρ' "_law_wheels" = some (.ref dm) /\ ρ' "_law_way" = some (.int way)) ?_ ?_ ?_
   · exact (iA5 e4 hCx (by walk_at "lk") (by walk_at "lk") (by walk_at "lk") (by walk_at "lk"))
   · clear e4 hCx h44
     rintro m v ρ' σ4 hv ⟨e4, hCx, q0, q1, q2, q3⟩
     refine ⟨ListAt.own hCx, ?_⟩
     intro KL hKL
     refine eEA (hit v (Mg hv)) fun t' ht' z1' => ?_; subst z1'
     obtain ⟨k, hk⟩ := Mi ht'
     refine eEA (coreT_at d.cor.symm hk) fun t a1 a2 => ?_
     have an : t.name = t'.name := congrArg (·.1) a2
     have ap : t.past = t'.past := congrArg (·.2.1) a2
     have al : t.l.map core = t'.l.map core := congrArg (·.2.2) a2
     have hmt := Mg a1
     have tlb := d.bd.l t hmt
     have d4 := d.ext e4
     have hHo := d4.h.hou
     refine Wl (by kernel_rfl) ?_
     refine Wc (WS.ite (WT.cmp1 rfl (WE.call rfl rfl (WE.globalA (by kernel_rfl) g_law_told ?_))))
     refine And.intro (Callee.fn fn_law_told) ?_
     refine WEs.cons rfl (WE.mp PL ‹_› ms_House_wheel_of (Po PL PN) ?_)
     rw [<- an]
     refine Wf (wheel_of_ok 15 d4.h hmt (by omega) fun W' d' l' σ5 hw hc e5 => ?_)
     have ll : l'.length <= 1000 := by have := congrArg List.length hc; rw [List.length_map, List.length_map] at this; omega
     refine WEs.nil (Wf (told10_c hw (by decide) ll fun L1 v1 σ6 hL1 hv1 e6 => ?_))
     have e46 : Extd σ4 σ6 := fun a p q => e6 _ _ (e5 _ _ q)
     have d6 := d4.ext e46
     have hdm6 := d6.m.dic
     have hgt := getK_mir d6.m ht'
     rw [<- an] at hgt
     have hwt := d6.m.whl t' ht'
     have gg := d6.m.gg t' ht'
     have ll' : t'.l.length <= 1000 := by have := congrArg List.length al; rw [List.length_map, List.length_map] at this; omega
     refine WE.cp g_law_told fn_law_told (Po (PE.sub PL PL (PI.sdict (fun _ _ => rfl) ‹_› ‹_›)) PN) ?_
     refine Wf (told10_c hwt (by omega) ll' fun L2 v2 σ7 hL2 hv2 e7 => ?_)
     have ec : (l'.map fun x => (Sum.inr (core x) : Int ⊕ (Str × Int × Int × Bool))) = t'.l.map fun x => .inr (core x) := by
      have := congrArg (List.map (fun c => (Sum.inr c : Int ⊕ (Str × Int × Int × Bool)))) (hc.trans al)
      rw [List.map_map, List.map_map] at this
      exact this
     rw [ec] at hv1
     have hv17 := hv1.imp fun _ _ q => ItAt.keep (σ' := σ7) q fun q => e7 _ _ q
     rw [ap] at hL1
     refine WC.ne (Nat.succ_le_succ (Nat.zero_le _)) (by decide) (RnV.listT (k := 1) (ListAt.own (e7 _ _ hL1)) (ListAt.own hL2) (.cons (EqV.intT rfl) (its_eq hv17 hv2))) ?_
     refine Wb (if_ff (Wn (Wn ?_)))
     exact hKL _ _ (iA5 (fun a p q => e7 _ _ (e46 _ _ (e4 _ _ q))) (e7 _ _ (e46 _ _ hCx)) (by walk_at "lk") (by walk_at "lk") (by walk_at "lk") (by walk_at "lk"))
   · rintro ρ' σ4 ⟨e4, hCx, q0, q1, q2, q3⟩
     refine ⟨ListAt.own hCx, ?_⟩
     by_cases c1 : (way.fdiv 5).fmod 2 = 1
     · have b1' : ((way.fdiv 5).fmod 2 == 1) = true := beq_iff_eq.mpr c1
       refine Wc (WS.ret (WE.or (PE.use (PE.cmp1 rfl (PE.binop (PE.binop PL PE.int (PB.div (by decide) (by decide))) PE.int (PB.mod (by decide))) PE.int PC.eqI) ?_)))
       refine Wb (if_pt ‹_› ?_)
       rw [b1']
       exact hq σ4 e4
     · have b1' : ((way.fdiv 5).fmod 2 == 1) = false := beq_eq_false_iff_ne.mpr c1
       refine Wc (WS.ret (WE.or (PE.use (PE.cmp1 rfl (PE.binop (PE.binop PL PE.int (PB.div (by decide) (by decide))) PE.int (PB.mod (by decide))) PE.int PC.eqI) ?_)))
       refine Wb (if_pf ‹_› ?_)
       refine WE.and1 ?_
       refine WE.cp g_law_all_ready fn_law_all_ready (Po PL (Po PL PN)) ?_
       refine Wf (all_ready_c (n := n) (d.ext e4) hN fun σ5 e5 => ?_)
       exact hq σ5 fun a p q => e5 _ _ (e4 _ _ q)
theorem Rel4.mild {tm : List Team} {ab : List (Str × Str)} {R : List Row4} {k : Nat} {r r' : Row4} (h : Rel4 tm ab R) (hk : R[k]? = some r) (e1 : r'.name = r.name) (e2 : r'.up = r.up) (e3 : r'.team = r.team) (e4 : r'.here = r.here) : Rel4 tm ab (R.set k r') := by
 have hkl := (Gs hk).1
 have to : ∀ {m : Nat} {q : Row4}, R[m]? = some q -> ∃ q', (R.set k r')[m]? = some q' /\ q'.name = q.name /\ q'.up = q.up /\ q'.team = q.team /\ q'.here = q.here := fun {m q} hm => by
  by_cases e : k = m
  · subst e
    have : q = r := Oi (hm.symm.trans hk)
    subst this
    exact (iEAAAA r' (List.getElem?_set_self hkl) e1 e2 e3 e4)
  · exact (iEAAAA q (by rw [List.getElem?_set_ne e]; exact hm) rfl rfl rfl rfl)
 have bk : ∀ {m : Nat} {q' : Row4}, (R.set k r')[m]? = some q' -> ∃ q, R[m]? = some q /\ q'.name = q.name /\ q'.up = q.up /\ q'.team = q.team /\ q'.here = q.here := fun {m q'} hm => by
  by_cases e : k = m
  · subst e
    rw [List.getElem?_set_self hkl] at hm
    have : r' = q' := Oi hm
    subst this
    exact (iEAAAA r hk e1 e2 e3 e4)
  · rw [List.getElem?_set_ne e] at hm
    exact (iEAAAA q' hm rfl rfl rfl rfl)
 refine ⟨fun p => ?_, fun x => ?_, fun m q hm hh => ?_, h.tr, h.lk, h.sh⟩
 · rw [h.abm]
   constructor
   · rintro ⟨m, q, a1, a2, a3⟩
     refine eEAAAA (to a1) fun q' b1 b2 b3 b4 b5 => ?_
     exact (iEEAA m q' b1 (by rw [b5]; exact a2) (by rw [b2, b3]; exact a3))
   · rintro ⟨m, q, a1, a2, a3⟩
     refine eEAAAA (bk a1) fun q' b1 b2 b3 b4 b5 => ?_
     exact (iEEAA m q' b1 (by rw [<- b5]; exact a2) (by rw [<- b2, <- b3]; exact a3))
 · rw [h.tns]
   constructor
   · rintro (w | ⟨m, q, a1, a2, a3, a4⟩)
     · exact .inl w
     · refine eEAAAA (to a1) fun q' b1 b2 b3 b4 b5 => ?_
       exact .inr (iEEAAA m q' b1 (by rw [b5]; exact a2) (by rw [b4]; exact a3) (by rw [b2]; exact a4))
   · rintro (w | ⟨m, q, a1, a2, a3, a4⟩)
     · exact .inl w
     · refine eEAAAA (bk a1) fun q' b1 b2 b3 b4 b5 => ?_
       exact .inr (iEEAAA m q' b1 (by rw [<- b5]; exact a2) (by rw [<- b4]; exact a3) (by rw [<- b2]; exact a4))
 · refine eEAAAA (bk hm) fun q' b1 b2 b3 b4 b5 => ?_
   refine eEEEEAAA (h.ent m q' b1 (by rw [<- b5]; exact hh)) fun i t j x a1 a2 a3 a4 => ?_
   exact (iEEEEAAA i t j x a1 (by rw [b3]; exact a2) a3 (by rw [b2]; exact a4))
theorem core_shared {x x' : Shr} (h : core x' = core x) (p s : Int) : core (shared p s x') = core (shared p s x) := by
 have e1 : x'.name = x.name := congrArg (·.1) h
 have e2 : x'.share = x.share := congrArg (·.2.1) h
 have e3 : x'.clock = x.clock := congrArg (·.2.2.1) h
 have e4 : x'.ready = x.ready := congrArg (·.2.2.2) h
 show (x'.name, s, (if p < x'.clock then p + ((x'.clock - p) * (27720 : Int).fdiv s).fdiv ((27720 : Int).fdiv x'.share) else x'.clock), x'.ready) = (x.name, s, (if p < x.clock then p + ((x.clock - p) * (27720 : Int).fdiv s).fdiv ((27720 : Int).fdiv x.share) else x.clock), x.ready)
 rw [e1, e2, e3, e4]
theorem resh_core {tm tn : List Team} (hc : tn.map coreT = tm.map coreT) {i j : Nat} {t t' : Team} {x x' : Shr} (b : coreT t' = coreT t) (bx : core x' = core x) (share : Int) : (tn.set i { t' with l := t'.l.set j (shared t'.past share x') }).map coreT = (tm.set i { t with l := t.l.set j (shared t.past share x) }).map coreT := by
 refine core_set hc ?_
 have e2 : t'.name = t.name := congrArg (·.1) b
 have e3 : t'.past = t.past := congrArg (·.2.1) b
 have e4 : t'.l.map core = t.l.map core := congrArg (·.2.2) b
 show (t'.name, t'.past, (t'.l.set j (shared t'.past share x')).map core) = (t.name, t.past, (t.l.set j (shared t.past share x)).map core)
 rw [List.map_set, List.map_set, e2, e3, e4, core_shared bx]
/-- a row's share is altered, in the house and in the law's own wheels -/
theorem Rd10.resh {s share : Int} {σ σ' : Hp} {H dw da dm B N k i j : Nat} {ts : List Nat} {tm tn : List Team} {ab : List (Str × Str)} {R : List Row5} {r : Row5} {t t' : Team} {x x' : Shr} (d : Rd10 s σ H dw da dm B ts N tm tn ab R) (hk : R[k]? = some r) (s0 : 1 <= share) (s1 : share <= 12) (a1 : tm[i]? = some t) (a3 : t.l[j]? = some x) (b1 : tn[i]? = some t') (b2 : coreT t' = coreT t) (bx : core x' = core x)
 (h' : HouseD σ' H dw da (tm.set i { t with l := t.l.set j (shared t.past share x) }) ab) (rel : Rel4 (tm.set i { t with l := t.l.set j (shared t.past share x) }) ab ((R.set k { r with share := share }).map Row5.to4)) (bd : Bd N (tm.set i { t with l := t.l.set j (shared t.past share x) }) ab)
 (m' : MirD σ' dm (tn.set i { t' with l := t'.l.set j (shared t'.past share x') })) (hR : Rows5 σ' B (R.set k { r with share := share }) ts) : Rd10 s σ' H dw da dm B ts N (tm.set i { t with l := t.l.set j (shared t.past share x) }) (tn.set i { t' with l := t'.l.set j (shared t'.past share x') }) ab (R.set k { r with share := share }) := by
 have rm : RdyM (tm.set i { t with l := t.l.set j (shared t.past share x) }) (R.set k { r with share := share }) := fun m q hm h1 h2 t0 ht0 x0 hx0 ex => by
  have hx : ∃ t1 ∈ tm, ∃ x1 ∈ t1.l, x1.name = x0.name /\ x1.ready = x0.ready := by
   rcases mem_set_or ht0 with rfl | ⟨m', _, hm'⟩
   · rcases mem_set_or hx0 with rfl | ⟨m2, _, hm2⟩
     · exact ⟨t, Mg a1, x, Mg a3, rfl, rfl⟩
     · exact ⟨t, Mg a1, x0, Mg hm2, rfl, rfl⟩
   · exact ⟨t0, Mg hm', x0, hx0, rfl, rfl⟩
  refine eE1 hx fun t1 y0' => eA1 y0' fun w1 y1' => eE1 y1' fun x1 y2' => eA2 y2' fun w2 w3 w4 => ?_; clear hx
  rw [<- w4]
  rcases set5 hk hm with ⟨rfl, rfl⟩ | ⟨_, hq⟩
  · exact d.rdyM m r hk h1 h2 t1 w1 x1 w2 (w3.trans ex)
  · exact d.rdyM m q hq h1 h2 t1 w1 x1 w2 (w3.trans ex)
 refine ⟨h', m', resh_core d.cor b2 bx share, rel, hR, ⟨fun m q h => ?_⟩, by rw [List.length_set]; exact d.rl, bd, fun v hv => ?_, rm.at, fun m q h h1 => ?_, fun m q h => ?_⟩
 · rcases set5 hk h with ⟨rfl, rfl⟩ | ⟨_, h⟩
   · exact d.ok.nm m r hk
   · exact d.ok.nm m q h
 · rcases mem_set_or hv with rfl | ⟨m, _, hm⟩
   · exact d.gk t' (Mg b1)
   · exact d.gk v (Mg hm)
 · rcases set5 hk h with ⟨rfl, rfl⟩ | ⟨_, h⟩
   · exact d.rt m r hk h1
   · exact d.rt m q h h1
 · rcases set5 hk h with ⟨rfl, rfl⟩ | ⟨_, h⟩
   · exact ⟨s0, s1⟩
   · exact d.sh m q h
theorem KpW.kpd {σ σ' : Hp} (h : KpW σ σ') : KpD σ σ' := fun a t o q w1 w2 _ w7 w20 => h a t o q w1 w2 w7 w20
theorem KpD.trans {σ σ' σ'' : Hp} (h : KpD σ σ') (k : KpD σ' σ'') : KpD σ σ'' := fun a t o q w1 w2 w5 w7 w20 => k a t o (h a t o q w1 w2 w5 w7 w20) w1 w2 w5 w7 w20
theorem KpD.held {σ σ' : Hp} (h : KpD σ σ') {v : MV} (hv : Held10 σ v) : Held10 σ' v := hv.keep (fun q => h _ _ _ q (by decide) (by decide) (by decide) (by decide) (by decide)) (fun q => h _ _ _ q (by decide) (by decide) (by decide) (by decide) (by decide))
theorem deed_c {s cell : Int} {H dw da dm B N Hd : Nat} {ts : List Nat} {tm tn : List Team} {ab : List (Str × Str)} {R : List Row5} {vs : List MV} (d : Rd10 s σ H dw da dm B ts N tm tn ab R) (hN : N <= 74) (r1 : 1 <= R.length) (hHd : σ Hd = some (5, .list vs)) (vl : vs.length <= 10000) (hv : ∀ v ∈ vs, Held10 σ v)
 (hq : ∀ tm' tn' ab' R' vs' σ', Rd10 s σ' H dw da dm B ts (N + 1) tm' tn' ab' R' -> R'.length = R.length -> σ' Hd = some (5, .list vs') -> vs'.length <= vs.length + 9 -> (∀ v ∈ vs', Held10 σ' v) -> KpD σ σ' -> Q (.bool true) σ') : WFn (cx w mean mg mb) ⟨n + 8, true, sc⟩ a_law_deed [.ref H, .ref B, .ref dm, .int cell, .ref Hd] ρ Q X σ := by
 have hl := d.rl
 have tl := d.rows.len
 have hB := d.rows.lst
 have el : ((ts.map MV.ref).length : Int) = (R.length : Int) := by rw [List.length_map, tl]
 have rn1 : (1 : Int) <= (R.length : Int) := by omega
 have rn0 : (R.length : Int) ≠ 0 := by omega
 have rnb : (R.length : Int).natAbs < 1073741824 := by omega
 have i0 := fmod_ge (cell.fdiv 10) rn1
 have i1 := fmod_lt (cell.fdiv 10) rn1
 have i2 : (cell.fdiv 10).fmod (R.length : Int) < 2 ^ 63 := by omega
 obtain ⟨k, hkk⟩ := Int.eq_ofNat_of_zero_le i0
 have hkl : k < R.length := by omega
 have hk : R[k]? = some R[k] := List.getElem?_eq_getElem hkl
 generalize R[k] = r at hk
 refine eEA (d.rows.at hk) fun u hu hru => ?_
 have hx1 : (ts.map MV.ref)[((cell.fdiv 10).fmod (R.length : Int)).toNat]? = some (.ref u) := by rw [hkk, Int.toNat_natCast, List.getElem?_map, hu]; rfl
 have k0 := fmod_ge cell (show (1 : Int) <= 10 by decide)
 have k9 := fmod_lt cell (show (1 : Int) <= 10 by decide)
 refine WFn.fn5 (p1 := "_law_house") (p2 := "_law_rows") (p3 := "_law_wheels") (p4 := "_law_cell") (p5 := "_law_held") (FnAt.of5 (rfl : (Mine.hd.heap_39 w.params).lookup a_law_deed = _) (by kernel_rfl) (fun _ _ _ _ _ => rfl) (by kernel_rfl)) ?_
 refine WSs.assignP (fun _ _ _ => rfl) (PE.binop PL PE.int (PB.mod (by decide))) (by kernel_rfl) ?_
 refine Wc (WS.assign (fun _ _ _ => rfl) (WE.sub (WE.lo ?_)))
 refine WE.binop (PE.use (PE.binop PL PE.int (PB.div (by decide) (by decide))) ?_)
 refine WE.callP (by kernel_rfl) g_len (Callee.con rfl) (Po PL PN) rfl ?_
 refine WCall.lenList (ListAt.own hB) (by rw [List.length_map]; exact Nat.le_trans (Nat.le_trans (Nat.le_of_eq ‹_›) ‹_›) (by decide)) ?_
 rw [el]
 refine WB.mod (by with_reducible assumption) ?_
 refine WSub.list (fun _ _ => rfl) (ListAt.own ‹_›) (by with_reducible assumption) (by with_reducible assumption) ‹_› ?_
 refine Wl (by kernel_rfl) ?_
 refine Wc (WS.assign (fun _ _ _ => rfl) (WE.binop (PE.use (PE.binop PL PE.int (PB.div (by decide) (by decide))) ?_)))
 refine WE.callP (by kernel_rfl) g_len (Callee.con rfl) (Po PL PN) rfl ?_
 refine WCall.lenList (ListAt.own hB) (by rw [List.length_map]; exact Nat.le_trans (Nat.le_trans (Nat.le_of_eq ‹_›) ‹_›) (by decide)) ?_
 rw [el]
 refine WB.div (by with_reducible assumption) (by with_reducible assumption) ?_
 refine Wl (by kernel_rfl) ?_
 refine Wc (WS.ite (PT.use (PT.cmp1 rfl PL PE.int PC.lt) ?_))
 generalize (cell.fdiv 10).fdiv (R.length : Int) = more
 generalize cell.fmod 10 = kind at k0 k9
 have same : ∀ {tm' tn' : List Team} {ab' : List (Str × Str)} {R' : List Row5} {σ' : Hp}, Rd10 s σ' H dw da dm B ts (N + 1) tm' tn' ab' R' -> R'.length = R.length -> KpW σ σ' -> Q (.bool true) σ' := fun d' hl' kp => hq _ _ _ _ vs _ d' hl' (kp _ _ _ hHd (by decide) (by decide) (by decide) (by decide)) (Nat.le_add_right _ _) (fun v w => kp.kpd.held (hv v w)) kp.kpd
 by_cases c4 : kind < 4
 · have z : R.length = R.length := rfl
   refine if_dt ‹_› ?_
   refine Wc (WS.ret (WE.cp g_law_woken fn_law_woken (Po PL (Po PL (Po PL (Po PL (Po (PE.cmp1 rfl PL PE.int PC.lt) PN))))) ?_))
   refine Wf (woken_c (n := n + 1) d (Nat.le_trans ‹_› (by decide)) hk hu fun tm' tn' σ' d' kp => ?_)
   exact same d'.up (by rw [List.length_set]) kp
 · by_cases c8 : kind < 8
   · have m0 := fmod_ge more (show (1 : Int) <= 9 by decide)
     have m9 := fmod_lt more (show (1 : Int) <= 9 by decide)
     refine if_df ‹_› ?_
     refine Wn (WSs.thenP (PT.cmp1 rfl PL PE.int PC.lt) (decide_eq_true ‹_›) ?_)
     refine Wc (WS.for rfl (fun _ _ => rfl) ?_)
     refine WE.call rfl rfl (WE.globalA (by kernel_rfl) g_range ?_)
     refine And.intro (Callee.con rfl) (WEs.cons rfl (WE.binop (WE.int (WE.binop (PE.use (PE.binop PL PE.int (PB.mod (by decide))) ?_)))))
     refine WE.callP (by kernel_rfl) g_int (Callee.con rfl) (Po (PE.cmp1 rfl PL PE.int PC.eqI) PN) rfl ?_
     refine WCall.intB ?_
     have hb : 0 <= (if (kind == 7) = true then (1 : Int) else 0) /\ (if (kind == 7) = true then (1 : Int) else 0) <= 1 := by split <;> decide
     generalize (if (kind == 7) = true then (1 : Int) else 0) = ib at hb ⊢
     have hmul : 0 <= more.fmod 9 * ib /\ more.fmod 9 * ib <= 8 := by
      have : ib = 0 ∨ ib = 1 := by omega
      rcases this with w | w
      · rw [w]; simp
      · rw [w, Int.mul_one]; omega
     refine WB.mul (IntMulOk.of_right (intBits_le_iff.mpr (by omega))) ?_
     refine WB.add ?_
     refine WEs.nil (WCall.range1 9 fun b hb' => ?_)
     refine (iEEA _ _ (itR Hp.self (by omega) (by omega)) ?_)
     refine WFor.upToO (fun j ρ' σ' => (∃ tm' tn' vs', Rd10 s σ' H dw da dm B ts N tm' tn' ab R /\ σ' Hd = some (5, .list vs') /\ vs'.length <= vs.length + j /\ ∀ v ∈ vs', Held10 σ' v) /\ KpD σ σ' /\ ρ' "_law_house" = some (.ref H) /\ ρ' "_law_wheels" = some (.ref dm) /\ ρ' "_law_held" = some (.ref Hd)) ?_ ?_ ?_
     · have e1 : Extd σ (σ.put b 9 (.range 0 (1 + more.fmod 9 * ib))) := fun a p q => Hp.new hb'.none q
       exact (iA4 (iE3 tm tn vs (iA3 (d.ext e1) (e1 _ _ hHd) (Nat.le_add_right _ _) (fun v w => e1.kpw.kpd.held (hv v w)))) e1.kpw.kpd (by walk_at "lk") (by walk_at "lk") (by walk_at "lk"))
     · rintro j ρ' σ1 hj ⟨⟨tm1, tn1, vs1, d1, hHd1, vl1, hv1⟩, kp1, q0, q1, q2⟩
       intro KL hKL
       refine Wl (by kernel_rfl) ?_
       refine Wc (WS.ite (WT.not (WT.plain (fun _ _ => rfl) (WE.cp g_law_dealt fn_law_dealt (Po PL (Po PL (Po PL PN))) ?_))))
       refine Wf (dealt_c (n := n + 2) d1 (Nat.le_trans ‹_› (by decide)) hHd1 (by omega) fun tm2 tn2 v2 σ2 d2 hHd2 hv2 kp2 => ?_)
       refine Wb (if_nt ?_)
       refine Wn (Wn ?_)
       refine hKL _ _ (iA4 (iE3 tm2 tn2 _ (iA3 d2 hHd2 (by rw [List.length_append]; simp only [List.length_cons, List.length_nil]; omega) (fun v w => ?_))) (kp1.trans kp2) (by walk_at "lk") (by walk_at "lk") (by walk_at "lk"))
       rcases List.mem_append.mp w with w | w
       · exact kp2.held (hv1 v w)
       · rw [List.mem_singleton.mp w]; exact hv2
     · rintro ρ' σ1 ⟨⟨tm1, tn1, vs1, d1, hHd1, vl1, hv1⟩, kp1, q0, q1, q2⟩
       refine Wn (WSs.retP PE.bool ?_)
       exact hq _ _ _ _ vs1 σ1 d1.up rfl hHd1 (by omega) hv1 kp1
   · by_cases c9 : kind = 8
     · have z0 : [MV.str r.name, .str r.up, .int r.share, .bool r.team, .bool r.rdy, .bool r.here][Int.toNat 0]? = some (.str r.name) := rfl
       have z5 : [MV.str r.name, .str r.up, .int r.share, .bool r.team, .bool r.rdy, .bool r.here][Int.toNat 5]? = some (.bool r.here) := rfl
       have n9 : (kind == 9) = false := by rw [c9]; decide
       cases hh : r.here with
       | false =>
        rw [hh] at hru z0 z5
        refine if_df ‹_› ?_
        refine Wn (WSs.elseP (PT.cmp1 rfl PL PE.int PC.lt) (decide_eq_false ‹_›) ?_)
        refine WSs.elseP (PT.boolop (PA.andT (PT.cmp1 rfl PL PE.int PC.eqI) (b_et ‹_›) (PA.andF (PT.plain (fun _ _ => rfl) (Px PL ‹_› ‹_›)) rfl))) rfl ?_
        refine WSs.skipP (PT.cmp1 rfl PL PE.int PC.eqI) ‹_› ?_
        refine Wn (Wn (WSs.retP PE.bool ?_))
        exact same d.up rfl fun _ _ _ q _ _ _ _ => q
       | true =>
        rw [hh] at hru z0 z5
        refine if_df ‹_› ?_
        refine Wn (WSs.elseP (PT.cmp1 rfl PL PE.int PC.lt) (decide_eq_false ‹_›) ?_)
        refine WSs.thenP (PT.boolop (PA.andT (PT.cmp1 rfl PL PE.int PC.eqI) (b_et ‹_›) (PA.andT (PT.plain (fun _ _ => rfl) (Px PL ‹_› ‹_›)) rfl PA.andN))) rfl ?_
        refine WSs.splitO (fun ρ' σ' => Extd σ σ' /\ ρ' "_law_house" = some (.ref H) /\ ρ' "_law_row" = some (.ref u) /\ ρ' "_law_wheels" = some (.ref dm) /\ ρ' "_law_more" = some (.int more)) ?_ ?_
        · intro KS hKS
          by_cases c3 : (more.fdiv 12).fmod 3 = 1
          · skip
            refine WS.ite (WT.bool (WA.and (PT.use (PT.cmp1 rfl (PE.binop (PE.binop PL PE.int (PB.div (by decide) (by decide))) PE.int (PB.mod (by decide))) PE.int PC.eqI) ?_)))
            refine if_et ‹_› ?_
            refine WA.and (WT.not (WT.plain (fun _ _ => rfl) (WE.cp g_law_refused_here fn_law_refused_here (Po PL (Po PL PN)) ?_)))
            refine Wf (refused_here_c (n := n + 1) d hk hu hh fun σ1 e1 => ?_)
            refine Wb (if_nt ?_)
            refine if_ff (Wn ?_)
            exact hKS _ _ (iA4 e1 (by walk_at "lk") (by walk_at "lk") (by walk_at "lk") (by walk_at "lk"))
          · have b3 : ((more.fdiv 12).fmod 3 == 1) = false := beq_eq_false_iff_ne.mpr c3
            refine WS.ite (PT.use (PT.boolop (PA.andF (PT.cmp1 rfl (PE.binop (PE.binop PL PE.int (PB.div (by decide) (by decide))) PE.int (PB.mod (by decide))) PE.int PC.eqI) ‹_›)) ?_)
            refine if_ff (Wn ?_)
            exact hKS _ _ (iA4 (fun _ _ q => q) (by walk_at "lk") (by walk_at "lk") (by walk_at "lk") (by walk_at "lk"))
        rintro ρ' σ1 ⟨e1, q0, q1, q2, q3⟩
        have d1 := d.ext e1
        have hru1 := e1 _ _ hru
        have s0 := sh_lo more
        have s1 := sh_hi more
        refine Wc (WS.setItem (fun _ _ _ => rfl) (PE.use (PE.binop PE.int (PE.binop PL PE.int (PB.mod (by decide))) PB.add) ?_))
        refine WE.lo ?_
        refine WE.int (WPut.list hru1 (by decide) (by simp) (by simp) ?_)
        generalize 1 + more.fmod 12 = sh at s0 s1
        refine eA4 (mark5 { r with share := sh } d1.h d1.m d1.rows hu hru1) fun h2 m2 hR2 k2 hu2 => ?_
        have ew : rowW { r with share := sh } = [MV.str r.name, .str r.up, .int r.share, .bool r.team, .bool r.rdy, .bool true].set (Int.toNat 2) (.int sh) := by unfold rowW; rw [hh]; rfl
        rw [<- ew]
        have kp2 := e1.kpw.trans k2
        generalize σ1.put u 7 (.list (rowW { r with share := sh })) = σ2 at h2 m2 hR2 hu2 kp2 ⊢
        clear k2 ew hru1
        have hHo2 := h2.hou
        have y0 : [MV.str r.name, .str r.up, .int sh, .bool r.team, .bool r.rdy, .bool r.here][Int.toNat 0]? = some (.str r.name) := rfl
        have y1 : [MV.str r.name, .str r.up, .int sh, .bool r.team, .bool r.rdy, .bool r.here][Int.toNat 1]? = some (.str r.up) := rfl
        have y2 : [MV.str r.name, .str r.up, .int sh, .bool r.team, .bool r.rdy, .bool r.here][Int.toNat 2]? = some (.int sh) := rfl
        refine Wc (WS.expr (fun _ _ _ => rfl) (WE.mp PL ‹_› ms_House_reshare (Po (Px PL ‹_› ‹_›) (Po (Px PL ‹_› ‹_›) PN)) ?_))
        refine Wf (lreshare_c (n := n + 3) (r := r.to4) h2 d.rel d.bd (to4_at hk) hh s0 s1 fun tm' σ3 v h3 rel3 bd3 k3 inf => ?_)
        refine eEEEEAAAA inf fun i j t x a1 a2 a3 a4 z1' => ?_; clear inf; subst z1'
        have a2 : t.name = r.up := a2
        have a4 : x.name = r.name := a4
        refine eEA (coreT_at d.cor a1) fun t' b1 b2 => ?_
        have b3 : t'.l.map core = t.l.map core := congrArg (·.2.2) b2
        have b4 : t'.name = r.up := (show t'.name = t.name from congrArg (·.1) b2).trans a2
        refine eEA (core_at b3 a3) fun x' b5 b6 => ?_
        have b7 : x'.name = r.name := (show x'.name = x.name from congrArg (·.1) b6).trans a4
        have m3 := m2.keep (σ' := σ3) fun q w1 w2 => k3 _ _ _ q w1 w2
        have hu3 := k3 _ _ _ hu2 (by decide) (by decide)
        have hR3 := hR2.keep (σ' := σ3) (fun q => k3 _ _ _ q (by decide) (by decide)) (fun q => k3 _ _ _ q (by decide) (by decide))
        have hmt := Mg b1
        have hdm3 := m3.dic
        have hgt := getK_mir m3 hmt
        rw [b4] at hgt
        have hwt := m3.whl t' hmt
        have hW : σ3 t'.W = some (t'.g, .inst a_Wheel [("past", .int t'.past), ("sharers", .ref t'.d)]) := hwt.whl
        have gg := m3.gg t' hmt
        obtain ⟨g0, g1⟩ := (core_shT d.cor d.rel.sh t' hmt).2 x' (Mg b5)
        refine Wc (WS.expr (fun _ _ _ => rfl) (WE.mp (PE.sub PL (Px PL ‹_› ‹_›) (PI.sdict (fun _ _ => rfl) ‹_› ‹_›)) ‹_› ms_Wheel_reshare (Po (Px PL ‹_› ‹_›) (Po (Px PL ‹_› ‹_›) PN)) ?_))
        rw [<- b7]
        refine Wf (reshare_c hwt b5 s0 s1 g0 g1 fun σ4 h4 o4 => ?_)
        have m4 := m3.one (t' := { t' with l := t'.l.set j (shared t'.past sh x') }) b1 rfl rfl rfl h4 o4
        refine Wn (Wn (WSs.retP PE.bool ?_))
        refine same (Rd10.up (d.resh hk s0 s1 a1 a3 b1 b2 b6 (h3.keep (fun q => o4.at q (om_lo ‹_› (by first | assumption | decide))) (fun q w => o4.at q (om_hi ‹_› ‹_›))) ?_ bd3 m4 (hR3.keep (fun q => o4.at q (om_lo ‹_› (by first | assumption | decide))) (fun q => o4.at q (om_lo ‹_› (by first | assumption | decide)))))) (by rw [List.length_set]) fun a t o q w1 w2 w7 w20 => o4.at (k3 _ _ _ (kp2 _ _ _ q w1 w2 w7 w20) w1 (by omega)) (om_lo ‹_› (by first | assumption | decide))
        rw [List.map_set]
        exact rel3.mild (to4_at hk) rfl rfl rfl rfl
     · have k99 : kind = 9 := by omega
       have n8 : (kind == 8) = false := beq_eq_false_iff_ne.mpr c9
       refine if_df ‹_› ?_
       refine Wn (WSs.elseP (PT.cmp1 rfl PL PE.int PC.lt) (decide_eq_false ‹_›) ?_)
       refine WSs.elseP (PT.boolop (PA.andF (PT.cmp1 rfl PL PE.int PC.eqI) ‹_›)) rfl ?_
       refine WSs.thenP (PT.cmp1 rfl PL PE.int PC.eqI) (b_et ‹_›) ?_
       refine Wc (WS.ret (WE.cp g_law_come_or_gone fn_law_come_or_gone (Po PL (Po PL (Po PL (Po PL (Po PL PN))))) ?_))
       refine Wf (come_or_gone_c (n := n) d hN hk hu fun tm' tn' ab' R' σ' d' hl' kp => ?_)
       exact same d' hl' kp
def off5 (r : Row5) : Row5 := { r with here := false }
def mask5 (j : Nat) (R : List Row5) : List Row5 := R.take j ++ (R.drop j).map off5
theorem mask5_at : ∀ (R : List Row5) (j k : Nat), (mask5 j R)[k]? = if k < j then R[k]? else (R[k]?).map off5
 | [], j, k => by simp [mask5]
 | r :: R, 0, k => by unfold mask5; rw [List.take_zero, List.drop_zero, List.nil_append, List.getElem?_map, if_neg (Nat.not_lt_zero _)]
 | r :: R, j + 1, 0 => by simp [mask5]
 | r :: R, j + 1, k + 1 => by
  have ih := mask5_at R j k
  unfold mask5 at ih ⊢
  rw [List.take_succ_cons, List.drop_succ_cons, List.cons_append, List.getElem?_cons_succ, List.getElem?_cons_succ, ih]
  by_cases q : k < j
  · rw [if_pos q, if_pos (Nat.succ_lt_succ q)]
  · rw [if_neg q, if_neg (by omega)]
theorem mask5_len (R : List Row5) (j : Nat) : (mask5 j R).length = R.length := by
 unfold mask5
 rw [List.length_append, List.length_map, <- List.length_append, List.take_append_drop]
theorem mask5_full (R : List Row5) : mask5 R.length R = R := by unfold mask5; rw [List.take_length, List.drop_length, List.map_nil, List.append_nil]
theorem mask5_set {R : List Row5} {j : Nat} {r : Row5} (h : R[j]? = some r) : (mask5 j R).set j r = mask5 (j + 1) R := by
 have hl := (Gs h).1
 refine List.ext_getElem? fun k => ?_
 by_cases q : j = k
 · subst q
   rw [List.getElem?_set_self (by rw [mask5_len]; exact hl), mask5_at, if_pos (Nat.lt_succ_self _), h]
 · rw [List.getElem?_set_ne q, mask5_at, mask5_at]
   by_cases e : k < j
   · rw [if_pos e, if_pos (by omega)]
   · rw [if_neg e, if_neg (by omega)]
theorem mask5_upd {R : List Row5} {j : Nat} {y : Row5} (hl : j < R.length) : (mask5 (j + 1) R).set j y = mask5 (j + 1) (R.set j y) := by
 refine List.ext_getElem? fun k => ?_
 by_cases q : j = k
 · subst q
   rw [List.getElem?_set_self (by rw [mask5_len]; exact hl), mask5_at, if_pos (Nat.lt_succ_self _), List.getElem?_set_self hl]
 · rw [List.getElem?_set_ne q, mask5_at, mask5_at, List.getElem?_set_ne q]
theorem mask5_here {R : List Row5} {j k : Nat} {r : Row5} (h : (mask5 j R)[k]? = some r) (hh : r.here = true) : k < j /\ R[k]? = some r := by
 rw [mask5_at] at h
 split at h
 · rename_i q; exact ⟨q, h⟩
 · refine eEA (Option.map_eq_some_iff.mp h) fun q h1 h2 => ?_
   rw [<- h2] at hh; exact nomatch hh
theorem mask5_row {R : List Row5} {j k : Nat} {q : Row5} (h : (mask5 j R)[k]? = some q) : ∃ r, R[k]? = some r /\ r.name = q.name /\ r.up = q.up /\ r.share = q.share /\ r.rdy = q.rdy := by
 rw [mask5_at] at h
 split at h
 · exact (iEAAAA q h rfl rfl rfl rfl)
 · refine eEA (Option.map_eq_some_iff.mp h) fun q' h1 h2 => ?_
   rw [<- h2]
   exact (iEAAAA q' h1 rfl rfl rfl rfl)
theorem mask5_to {R : List Row5} {j k : Nat} {r : Row5} (h : R[k]? = some r) : ∃ q, (mask5 j R)[k]? = some q /\ q.name = r.name := by
 rw [mask5_at]
 split
 · exact (iEA r h rfl)
 · rw [h]; exact (iEA _ rfl rfl)
/-- a heap whose rows are as one likes -/
theorem virt {H dw da dm B : Nat} {ts : List Nat} {tm tn : List Team} {ab : List (Str × Str)} {R' : List Row5} : ∀ (n k : Nat) {σ : Hp} {R1 : List Row5}, R1.length = R'.length -> k + n = R'.length -> (∀ i, i < k -> R1[i]? = R'[i]?) -> HouseD σ H dw da tm ab -> MirD σ dm tn -> Rows5 σ B R1 ts -> ∃ σv, HouseD σv H dw da tm ab /\ MirD σv dm tn /\ Rows5 σv B R' ts
 | 0, k, σ, R1, hl, hk, hi, h, m, hR => by
  have : R1 = R' := List.ext_getElem? fun i => by
   by_cases q : i < k
   · exact hi i q
   · rw [List.getElem?_eq_none (by omega), List.getElem?_eq_none (by omega)]
  rw [<- this]
  exact (iEAA σ h m hR)
 | n + 1, k, σ, R1, hl, hk, hi, h, m, hR => by
  have l1 : k < R1.length := by omega
  have l2 : k < R'.length := by omega
  refine eEA (hR.at (List.getElem?_eq_getElem l1)) fun u hu hru => ?_
  refine eA4 (mark5 R'[k] h m hR hu hru) fun h3 m3 hR3 _ _ => ?_
  refine virt n (k + 1) (by rw [List.length_set]; exact hl) (by omega) (fun i hi' => ?_) h3 m3 hR3
  by_cases q : k = i
  · subst q
    rw [List.getElem?_set_self l1, List.getElem?_eq_getElem l2]
  · rw [List.getElem?_set_ne q]; exact hi i (by omega)
theorem Rd10.move {s : Int} {σ σ' : Hp} {H dw da dm B N : Nat} {ts : List Nat} {tm tn : List Team} {ab : List (Str × Str)} {R : List Row5} (d : Rd10 s σ H dw da dm B ts N tm tn ab R) (h : HouseD σ' H dw da tm ab) (m : MirD σ' dm tn) (hR : Rows5 σ' B R ts) : Rd10 s σ' H dw da dm B ts N tm tn ab R := ⟨h, m, d.cor, d.rel, hR, d.ok, d.rl, d.bd, d.gk, d.rdy, d.rt, d.sh⟩
theorem Rd10.put5 {s : Int} {σ0 σ : Hp} {H dw da dm B N k : Nat} {ts : List Nat} {tm tn tm0 tn0 : List Team} {ab ab0 : List (Str × Str)} {R : List Row5} {r y : Row5} (d : Rd10 s σ0 H dw da dm B ts N tm0 tn0 ab0 R) (hk : R[k]? = some r) (yn : y.name = r.name) (y0 : 1 <= y.share) (y1 : y.share <= 12) (yr : y.rdy = false) (h : HouseD σ H dw da tm ab) (m : MirD σ dm tn) (cor : tn.map coreT = tm.map coreT) (rel : Rel4 tm ab ((R.set k y).map Row5.to4)) (bd : Bd (N + 1) tm ab) (gk : ∀ t ∈ tn, t.g < 21 + (N + 1)) (rdy : RdyM tm (R.set k y)) (hR : Rows5 σ B (R.set k y) ts) : Rd10 s σ H dw da dm B ts (N + 1) tm tn ab (R.set k y) := by
 refine ⟨h, m, cor, rel, hR, ⟨fun m q h => ?_⟩, by rw [List.length_set]; exact d.rl, bd, gk, rdy.at, fun m q h h1 => ?_, fun m q h => ?_⟩
 · rcases set5 hk h with ⟨rfl, rfl⟩ | ⟨_, h⟩
   · exact yn.trans (d.ok.nm m r hk)
   · exact d.ok.nm m q h
 · rcases set5 hk h with ⟨rfl, rfl⟩ | ⟨_, h⟩
   · exact yr
   · exact d.rt m q h h1
 · rcases set5 hk h with ⟨rfl, rfl⟩ | ⟨_, h⟩
   · exact ⟨y0, y1⟩
   · exact d.sh m q h
/-- the house as it is being built: the first j rows are placed -/
structure Bld (s : Int) (σ : Hp) (H dw da dm B : Nat) (ts : List Nat) (j : Nat) (tm tn : List Team) (ab : List (Str × Str)) (R : List Row5) : Prop where
 h : HouseD σ H dw da tm ab
 m : MirD σ dm tn
 rows : Rows5 σ B R ts
 v : ∃ σv, Rd10 s σv H dw da dm B ts (j + 1) tm tn ab (mask5 j R)
 nw : ∀ (k : Nat) (r : Row5), R[k]? = some r -> UpOk R k r.up /\ r.here = true /\ (j <= k -> r.rdy = false)
theorem Bld.ext {s : Int} {σ σ' : Hp} {H dw da dm B j : Nat} {ts : List Nat} {tm tn : List Team} {ab : List (Str × Str)} {R : List Row5} (b : Bld s σ H dw da dm B ts j tm tn ab R) (e : Extd σ σ') : Bld s σ' H dw da dm B ts j tm tn ab R := ⟨b.h.ext e, b.m.keep fun q _ _ => e _ _ q, b.rows.ext e, b.v, b.nw⟩
theorem Bld.start {s : Int} {σ : Hp} {H dw da dm B W d W' d' : Nat} {ts : List Nat} {R : List Row5} (h : HouseD σ H dw da [⟨"", W, d, 100, 0, []⟩] []) (m : MirD σ dm [⟨"", W', d', 20, 0, []⟩]) (hR : Rows5 σ B R ts) (ok : ROk5 s R) (nw : RNew R) (rl : R.length <= 25) : Bld s σ H dw da dm B ts 0 [⟨"", W, d, 100, 0, []⟩] [⟨"", W', d', 20, 0, []⟩] [] R := by
 refine ⟨h, m, hR, ?_, fun k r hk => (iA2 ((nw.nw k r hk).1) ((nw.nw k r hk).2.2.2.2) (fun _ => (nw.nw k r hk).2.2.2.1))⟩
 refine eEAA (virt (R' := mask5 0 R) (mask5 0 R).length 0 (mask5_len R 0).symm (by omega) (fun i hi => absurd hi (Nat.not_lt_zero _)) h m hR) fun σv hv mv Rv => ?_
 have no5 : ∀ (k : Nat) (r : Row5), (mask5 0 R)[k]? = some r -> r.here = true -> False := fun k r h hh => by have := (mask5_here h hh).1; omega
 have no : ∀ (k : Nat) (r : Row4), ((mask5 0 R).map Row5.to4)[k]? = some r -> r.here = true -> False := fun k r h hh => by
  refine eEA (to4_back h) fun q hq z1' => ?_; subst z1'
  exact no5 k q hq hh
 refine ⟨σv, hv, mv, rfl, ?_, Rv, ⟨fun k q hk => ?_⟩, by rw [mask5_len]; exact rl, ?_, fun t ht => ?_, fun k r hk hh => (no5 k r hk hh).elim, fun k q hk _ => ?_, fun k q hk => ?_⟩
 · refine ⟨fun p => ⟨fun q => (nomatch q), fun ⟨k, r, a1, a2, _⟩ => (no k r a1 a2).elim⟩, fun x => ⟨fun q => .inl (List.mem_singleton.mp q), fun q => q.elim (fun q => List.mem_singleton.mpr q) fun ⟨k, r, a1, a2, _⟩ => (no k r a1 a2).elim⟩, fun k r a1 a2 => (no k r a1 a2).elim, ⟨(iEA _ rfl rfl), fun k t hk hpos => ?_, fun k t j x hk hj => ?_, by simp⟩, fun k t k' t' j x _ _ hm => absurd hm (by simp), fun t ht => ?_⟩
   · cases k with
     | zero => exact absurd hpos (Nat.lt_irrefl _)
     | succ k => simp at hk
   · cases k with
     | zero => simp at hk; subst hk; simp at hj
     | succ k => simp at hk
   · rw [List.mem_singleton.mp ht]
     exact ⟨Nat.zero_le _, fun x hx => nomatch hx⟩
 · refine eEAA (mask5_row hk) fun r hr e _ => ?_
   rw [<- e]; exact ok.nm k r hr
 · refine ⟨Nat.le_refl _, Nat.zero_le _, fun t ht => ?_, fun t ht => ?_⟩
   · rw [List.mem_singleton.mp ht]; show 100 <= 101; decide
   · rw [List.mem_singleton.mp ht]; exact Nat.zero_le _
 · rw [List.mem_singleton.mp ht]; show 20 < 21 + (0 + 1); decide
 · refine eEAAAA (mask5_row hk) fun r hr _ _ _ e => ?_
   rw [<- e]; exact (nw.nw k r hr).2.2.2.1
 · refine eEAAAA (mask5_row hk) fun r hr _ _ e _ => ?_
   rw [<- e]; exact ⟨(nw.nw k r hr).2.1, (nw.nw k r hr).2.2.1⟩
theorem Bld.done {s : Int} {σ : Hp} {H dw da dm B : Nat} {ts : List Nat} {tm tn : List Team} {ab : List (Str × Str)} {R : List Row5} (b : Bld s σ H dw da dm B ts R.length tm tn ab R) : Rd10 s σ H dw da dm B ts (R.length + 1) tm tn ab R := by
 obtain ⟨σv, d⟩ := b.v
 rw [mask5_full] at d
 exact d.move b.h b.m b.rows
theorem Bld.abv {s : Int} {σ : Hp} {H dw da dm B j : Nat} {ts : List Nat} {tm tn : List Team} {ab : List (Str × Str)} {R : List Row5} (b : Bld s σ H dw da dm B ts j tm tn ab R) : Abv ab R := by
 obtain ⟨σv, d⟩ := b.v
 have a := d.abv
 refine ⟨fun nm u h => ?_, fun i i' r r' h1 h2 e => ?_⟩
 · refine eEEAA (a.up nm u h) fun i q c1 c2 c3 => ?_
   refine eEAAA (mask5_row c1) fun r hr e1 e2 _ => ?_
   exact (iEEAA i r hr (e1.trans c2) (e2.trans c3))
 · refine eEA (mask5_to (j := j) h1) fun q c1 c2 => ?_
   refine eEA (mask5_to (j := j) h2) fun q' c3 c4 => ?_
   exact a.uq i i' q q' c1 c3 (by rw [c2, c4, e])
theorem Bld.come {s : Int} {σ0 σ : Hp} {H dw da dm B j : Nat} {ts : List Nat} {tm0 tn0 tm tn : List Team} {ab0 ab : List (Str × Str)} {R : List Row5} {r : Row5} (b : Bld s σ0 H dw da dm B ts j tm0 tn0 ab0 R) (hk : R[j]? = some r) (h : HouseD σ H dw da tm ab) (m : MirD σ dm tn) (cor : tn.map coreT = tm.map coreT) (rel : Rel4 tm ab (((mask5 j R).map Row5.to4).set j r.to4)) (bd : Bd (j + 1 + 1) tm ab) (gk : ∀ t ∈ tn, t.g < 21 + (j + 1 + 1)) (rdy : RdyM tm ((mask5 j R).set j r)) (hR : Rows5 σ B R ts) : Bld s σ H dw da dm B ts (j + 1) tm tn ab R := by
 obtain ⟨σ1, d⟩ := b.v
 refine eA2 (b.nw j r hk) fun _ _ hrd => ?_
 have hkm : (mask5 j R)[j]? = some (off5 r) := by rw [mask5_at, if_neg (Nat.lt_irrefl _), hk]; rfl
 refine eEAA (virt (R' := mask5 (j + 1) R) (mask5 (j + 1) R).length 0 (mask5_len R _).symm (by omega) (fun i hi => absurd hi (Nat.not_lt_zero _)) h m hR) fun σv hv mv Rv => ?_
 have sh := d.sh j (off5 r) hkm
 have := d.put5 (y := r) hkm rfl sh.1 sh.2 (hrd (Nat.le_refl _)) hv mv cor (by rw [List.map_set]; exact rel) bd gk rdy (by rw [mask5_set hk]; exact Rv)
 rw [mask5_set hk] at this
 exact ⟨h, m, hR, ⟨σv, this⟩, fun k q hq => (iA2 ((b.nw k q hq).1) ((b.nw k q hq).2.1) (fun w => (b.nw k q hq).2.2 (by omega)))⟩
theorem UpOk.upd {R : List Row5} {k j : Nat} {x : Str} {r y : Row5} (h : UpOk R k x) (hj : R[j]? = some r) (e1 : y.team = r.team) (e2 : y.name = r.name) : UpOk (R.set j y) k x := h.imp id fun ⟨i, q, h1, h2, h3, h4⟩ => by
 by_cases w : j = i
 · subst w
   have : q = r := Oi (h2.symm.trans hj)
   subst this
   exact (iEEAAA j y h1 (List.getElem?_set_self (Gs hj).1) (e1.trans h3) (e2.trans h4))
 · exact (iEEAAA i q h1 (by rw [List.getElem?_set_ne w]; exact h2) h3 h4)
theorem wokenB_c {s : Int} {H dw da dm B j u : Nat} {ts : List Nat} {tm tn : List Team} {ab : List (Str × Str)} {R : List Row5} {r : Row5} (b : Bld s σ H dw da dm B ts (j + 1) tm tn ab R) (hN : j <= 400) (hk : R[j]? = some r) (hrd : r.rdy = false) (ht : r.team = false) (hu : ts[j]? = some u)
 (hq : ∀ tm' tn' σ', Bld s σ' H dw da dm B ts (j + 1) tm' tn' ab (R.set j { r with rdy := true }) -> KpW σ σ' -> Q (.bool true) σ') : WFn (cx w mean mg mb) ⟨n + 6, true, sc⟩ a_law_woken [.ref H, .ref B, .ref dm, .ref u, .bool true] ρ Q X σ := by
 obtain ⟨σv, d⟩ := b.v
 have hh : r.here = true := (b.nw j r hk).2.1
 have hkl := (Gs hk).1
 have hkM : (mask5 (j + 1) R)[j]? = some r := by rw [mask5_at, if_pos (Nat.lt_succ_self _)]; exact hk
 have hl := d.rl
 rw [mask5_len] at hl
 have hru : σ u = some (7, .list [.str r.name, .str r.up, .int r.share, .bool r.team, .bool r.rdy, .bool r.here]) := by
  refine eEA (b.rows.at hk) fun u' h1 h2 => ?_
  have : u' = u := Oi (h1.symm.trans hu)
  rw [<- this]; exact h2
 have hHo := b.h.hou
 have r4 := to4_at hkM
 have rl4 : ((mask5 (j + 1) R).map Row5.to4).length <= 26 := by rw [to4_len, mask5_len]; exact Nat.le_trans ‹_› (by decide)
 have z0 : [MV.str r.name, .str r.up, .int r.share, .bool false, .bool false, .bool true][Int.toNat 0]? = some (.str r.name) := rfl
 have z3 : [MV.str r.name, .str r.up, .int r.share, .bool false, .bool false, .bool true][Int.toNat 3]? = some (.bool false) := rfl
 have z4 : [MV.str r.name, .str r.up, .int r.share, .bool false, .bool false, .bool true][Int.toNat 4]? = some (.bool false) := rfl
 have z5 : [MV.str r.name, .str r.up, .int r.share, .bool false, .bool false, .bool true][Int.toNat 5]? = some (.bool true) := rfl
 rw [hh, ht, hrd] at hru
 refine eE6 (d.place hkM hh) fun i t jj x t' x' y0' => eA7 y0' fun a1 a2 a3 a4 b1 b2 b3 b4 => ?_
 have xr : x.ready = false := (d.rdy j r hkM hh ht i t jj x a1 a3 a4).trans hrd
 have hnN : x.name ∉ tm.map (·.name) := by rw [a4]; exact hand_no d hkM ht
 have trn := tree_core d.cor d.rel.tr
 have lkn := link_core d.cor d.rel.lk
 have x'n : x'.name = r.name := (show x'.name = x.name from congrArg (·.1) b4).trans a4
 have x'r : x'.ready = false := (show x'.ready = x.ready from congrArg (·.2.2.2) b4).trans xr
 have nN' : x'.name ∉ tn.map (·.name) := by rw [core_names d.cor, x'n, <- a4]; exact hnN
 have zl' := core_lens d.cor fun v hv => (d.rel.sh v hv).1
 refine WFn.fn5 (p1 := "_law_house") (p2 := "_law_rows") (p3 := "_law_wheels") (p4 := "_law_row") (p5 := "_law_up") (FnAt.of5 (rfl : (Mine.hd.heap_39 w.params).lookup a_law_woken = _) (by kernel_rfl) (fun _ _ _ _ _ => rfl) (by kernel_rfl)) ?_
 refine Wc (WS.assign (fun _ _ _ => rfl) (WE.ifexp ?_))
 refine PT.use (PT.not (PT.plain (fun _ _ => rfl) (Px PL ‹_› ‹_›))) ?_
 refine if_nt ?_
 refine WE.ifexp ?_
 refine PT.use (PT.plain (fun _ _ => rfl) (Px PL ‹_› ‹_›)) ?_
 refine if_ff (PE.use (PE.cmp1 rfl (Px PL ‹_› ‹_›) PL PC.neB) ?_)
 refine Wl (by kernel_rfl) ?_
 refine Wc (WS.assign (fun _ _ _ => rfl) (WE.cp g_law_moved fn_law_moved (Po PL (Po (Px PL ‹_› ‹_›) (Po PL PN))) ?_))
 rw [<- a4]
 refine Wf (moved_c (n := n) b.h d.rel.tr d.rel.lk a1 a3 hnN (fun v hv => (d.rel.sh v hv).1) fun tm' σ1 h1 c1 k1 => ?_)
 rw [xr]
 rw [a4] at c1
 have m1 := b.m.keep (σ' := σ1) fun q w1 w2 => k1 _ _ _ q w1 w2
 have hR1 := b.rows.keep (σ' := σ1) (fun q => k1 _ _ _ q (by decide) (by decide)) (fun q => k1 _ _ _ q (by decide) (by decide))
 have hru1 := k1 _ _ _ hru (by decide) (by decide)
 have bs : (false != true) = true := rfl
 have bt : (true != true) = false := rfl
 rw [bs]
 refine Wl (by kernel_rfl) ?_
 refine Wc (WS.ite (WT.bool (WA.or (PT.use (PT.cmp1 rfl PL PL PC.neB) ?_))))
 refine if_pf ‹_› ?_
 refine WA.or (WT.cmp1 rfl (WE.callP (by kernel_rfl) g_isinstance (Callee.con rfl) (Po PL (Po (PE.globalA (by kernel_rfl) g_bool) PN)) rfl ?_))
 refine WCall.isinstance KindOf.bool k_bool_bool ?_
 refine WE.callP (by kernel_rfl) g_isinstance (Callee.con rfl) (Po PL (Po (PE.globalA (by kernel_rfl) g_bool) PN)) rfl ?_
 refine WCall.isinstance KindOf.bool k_bool_bool ?_
 refine WC.neB ?_
 refine Wb (if_pf ‹_› ?_)
 refine WA.or_nil (if_ff (Wn (WSs.thenP (PT.boolop (PA.andT (PT.plain (fun _ _ => rfl) (Px PL ‹_› ‹_›)) rfl (PA.andT (PT.not (PT.plain (fun _ _ => rfl) (Px PL ‹_› ‹_›))) rfl (PA.andT (PT.cmp1 rfl (Px PL ‹_› ‹_›) PL PC.neB) ‹_› PA.andN)))) rfl ?_)))
 refine Wc (WS.expr (fun _ _ _ => rfl) (WE.cp g_law_stirred fn_law_stirred (Po PL (Po PL (Po (Px PL ‹_› ‹_›) (Po PL PN)))) ?_))
 rw [<- x'n]
 refine Wf (stirUp_c m1 trn lkn d.h.an hR1 (Nat.le_trans ‹_› (by decide)) b.abv b1 b3 nN' x'r zl' fun tn' σ2 m2 c2 k2 => ?_)
 rw [x'n] at c2
 have h2 := h1.kpt m1 k2
 have no : ∀ {v : Nat}, v < 20 -> v ∉ tn.map (·.g) := fun hv hm => by
  refine eEA (Mm hm) fun y hy ey => ?_
  have := b.m.gg y hy
  omega
 have hru2 := k2 _ _ _ hru1 (no (by decide))
 have hR2 := hR1.keep (σ' := σ2) (fun q => k2 _ _ _ q (no (by decide))) (fun q => k2 _ _ _ q (no (by decide)))
 refine eA4 (mark5 { r with rdy := true } h2 m2 hR2 hu hru2) fun h3 m3 hR3 k3 _ => ?_
 refine Wc (WS.setItem (fun _ _ _ => rfl) (WE.lo ?_))
 refine WE.lo ?_
 refine WE.int (WPut.list hru2 (by decide) (by simp) (by simp) ?_)
 refine Wn (WSs.retP PE.bool ?_)
 have kk := (k1.kpw.trans (KpT.kpw m1 k2)).trans k3
 refine eEAA (virt (R' := mask5 (j + 1) (R.set j { r with rdy := true })) (mask5 (j + 1) (R.set j { r with rdy := true })).length 0 (mask5_len _ _).symm (by omega) (fun i hi => absurd hi (Nat.not_lt_zero _)) h3 m3 hR3) fun σw hw mw Rw => ?_
 have d3 := d.chg gok_wake hkM hh ht hw mw c1 c2 (by rw [mask5_upd hkl]; exact Rw)
 rw [mask5_upd hkl] at d3
 have b3 : Bld s _ H dw da dm B ts (j + 1) tm' tn' ab (R.set j { r with rdy := true }) := ⟨h3, m3, hR3, ⟨σw, d3⟩, fun k q hq => by
  rcases set5 hk hq with ⟨rfl, rfl⟩ | ⟨hne, hq'⟩
  · exact (iA2 ((b.nw k r hk).1.upd hk rfl rfl) hh (fun w => absurd w (by omega)))
  · exact ⟨(b.nw k q hq').1.upd hk rfl rfl, (b.nw k q hq').2⟩⟩
 have ew : rowW { r with rdy := true } = [MV.str r.name, .str r.up, .int r.share, .bool false, .bool false, .bool true].set (Int.toNat 4) (.bool true) := by unfold rowW; rw [hh, ht]; rfl
 rw [<- ew]
 exact hq tm' tn' _ b3 kk
theorem cell_c {a : Nat} {ns : List Int} {k : Int} (hl : ListAt σ a (ns.map .int)) (hz : ns.length <= 63) (h0 : 0 <= k) (hk : k < 2 ^ 63) (hq : Q (.int (ns.getD k.toNat 0)) σ) : WFn (cx w mean mg mb) ⟨n + 1, true, sc⟩ a_law_cell_at [.ref a, .int k] ρ Q X σ := by
 refine WFn.fn2 (p1 := "_law_script") (p2 := "_law_k") (FnAt.of2 (rfl : (Mine.hd.heap_39 w.params).lookup a_law_cell_at = _) (by kernel_rfl) (fun _ _ => rfl) (by kernel_rfl)) ?_
 refine Wc (WS.ite (WT.cmp1 rfl (WE.lo ?_)))
 refine WE.callP (by kernel_rfl) g_len (Callee.con rfl) (Po PL PN) rfl ?_
 refine WCall.lenList hl (mapLe (Nat.le_trans hz (by decide))) ?_
 by_cases hlt : k < ((ns.map MV.int).length : Int)
 · have hl' : k.toNat < ns.length := by simp at hlt; omega
   have hx : (ns.map MV.int)[k.toNat]? = some (.int (ns.getD k.toNat 0)) := by
    simp [List.getElem?_eq_getElem hl', List.getD]
   refine WC.lt ?_
   refine Wb (if_dt ‹_› ?_)
   refine WSs.retP (PE.sub PL PL (PI.list (fun _ _ => rfl) ‹_› (by with_reducible assumption) (by with_reducible assumption) ‹_›)) ?_
   exact hq
 · skip
   refine WC.lt ?_
   refine Wb (if_df ‹_› ?_)
   refine Wn (WSs.retP PE.int ?_)
   have hl' : ns.length <= k.toNat := by simp at hlt; omega
   have : ns.getD k.toNat 0 = 0 := by simp [List.getD, List.getElem?_eq_none hl']
   rw [this] at hq
   exact hq
theorem held_eqT {i : Ix} {ρ : Lo} {x : Str} {t elt : Expr} {Hd : Nat} {vs : List MV} {σ : Hp} (hH : σ Hd = some (5, .list vs)) (hp : ∀ v ∈ vs, Held10 σ v) {Qc : List MV -> Hp -> Prop}
 (h : ∀ (u L L2 : Nat) (p : List Str), σ u = some (8, .tuple [.ref L, .ref L2]) -> σ L = some (9, .list (p.map .str)) -> σ L2 = some (9, .list (p.map .str)) -> ∀ K : Bool -> Hp -> Prop, K false σ -> WT (cx w mean mg mb) i t (ρ.put x (.ref u)) K noX σ)
 (hq : Qc [] σ) : WComp (cx w mean mg mb) i x elt [t] (fun σ => ListAt σ Hd vs) Qc ρ vs [] σ := by
 have ef : (vs.filter fun _ => false) = [] := List.filter_eq_nil_iff.mpr fun _ _ => by decide
 refine WComp.filter (ListAt.own hH) (p := fun _ => false) (f := id) (fun v hv K hK => ?_) (fun v hv hp K hK => nomatch hp) (by rw [ef]; exact hq)
 refine eEEEEAAA (hp v hv) fun u L L2 p z1' h1 h2 h3 => ?_; subst z1'
 exact h u L L2 p h1 h2 h3 K hK
theorem shapeZ : ((List.range 5).all fun a => (List.range 26).all fun i => (List.range 4).all fun b => decide (repS "o" a ++ ⟨#[97 + i]⟩ ++ repS "o" b ≠ ("zzzzzzzz" : Str))) = true := by kernel_rfl
theorem nm13_z (s : Int) (k : Nat) : nm13 s k ≠ "zzzzzzzz" := by
 have a0 := fmod_ge (s.fdiv 26) (show (1 : Int) <= 5 by decide)
 have a1 := fmod_lt (s.fdiv 26) (show (1 : Int) <= 5 by decide)
 have b0 := fmod_ge (s.fdiv 130) (show (1 : Int) <= 4 by decide)
 have b1 := fmod_lt (s.fdiv 130) (show (1 : Int) <= 4 by decide)
 have c0 := fmod_ge ((k : Int) + s) (show (1 : Int) <= 26 by decide)
 have c1 := fmod_lt ((k : Int) + s) (show (1 : Int) <= 26 by decide)
 exact of_decide_eq_true (List.all_eq_true.mp (List.all_eq_true.mp (List.all_eq_true.mp shapeZ _ (List.mem_range.mpr (show ((s.fdiv 26).fmod 5).toNat < 5 by omega))) _ (List.mem_range.mpr (show (((k : Int) + s).fmod 26).toNat < 26 by omega))) _ (List.mem_range.mpr (show ((s.fdiv 130).fmod 4).toNat < 4 by omega)))
theorem no_ab {s : Int} {σ : Hp} {H dw da dm B N : Nat} {ts : List Nat} {tm tn : List Team} {ab : List (Str × Str)} {R : List Row5} (d : Rd10 s σ H dw da dm B ts N tm tn ab R) {x : Str} (hx : ∀ k, nm13 s k ≠ x) : x ∉ ab.map (·.1) := fun hm => by
 refine eEA (Mm hm) fun p hp e => ?_
 refine eEEAA ((d.rel.abm _).mp hp) fun k q c1 _ c3 => ?_
 have := d.ok.to4.nm k q c1
 rw [c3] at e
 exact hx k (this.symm.trans e)
theorem odd_moved {s : Int} {H dw da dm B N A : Nat} {ts : List Nat} {tm tn : List Team} {ab : List (Str × Str)} {R : List Row5} {v : MV} {up : Bool} (d : Rd10 s σ H dw da dm B ts N tm tn ab R) (hA : σ A = some (9, .list [.str "a"])) (hv : v ∈ [MV.str "zzzzzzzz", .str "", .int 7, .none, .ref A, .bool true]) (hq : ∀ σ', Extd σ σ' -> Q (.str "no name") σ') : WFn (cx w mean mg mb) ⟨n + 4, true, sc⟩ a_law_moved [.ref H, v, .bool up] ρ Q X σ := by
 refine moved_bad d.h ref_NoName (fun {Q' ρ' sc' X'} hx => need_hand_no d.h fun {Q2 ρ2 sc2} => ?_) hq
 have hv' : v = .str "zzzzzzzz" ∨ v = .str "" ∨ v = .int 7 ∨ v = .none ∨ v = .ref A ∨ v = .bool true := by simpa using hv
 rcases hv' with rfl | rfl | rfl | rfl | rfl | rfl
 · exact hneed_no d.h (no_ab d fun k => nm13_z s k) fun e => hx e
 · exact hneed_no d.h (no_ab d fun k => (nm13_ok s k).ne_bad badN.empty) fun e => hx e
 · exact hneed_odd .int k_int_str fun e => hx e
 · exact hneed_odd .none k_NoneType_str fun e => hx e
 · exact hneed_odd (.list hA) k_list_str fun e => hx e
 · exact hneed_odd .bool k_bool_str fun e => hx e
theorem Rd10.le {s : Int} {σ : Hp} {H dw da dm B N N' : Nat} {ts : List Nat} {tm tn : List Team} {ab : List (Str × Str)} {R : List Row5} (d : Rd10 s σ H dw da dm B ts N tm tn ab R) (h : N <= N') : Rd10 s σ H dw da dm B ts N' tm tn ab R :=
 ⟨d.h, d.m, d.cor, d.rel, d.rows, d.ok, d.rl, d.bd.up h, fun t ht => by have := d.gk t ht; omega, d.rdy, d.rt, d.sh⟩
/-- what the next row finds -/
theorem Bld.next {s : Int} {σ : Hp} {H dw da dm B j : Nat} {ts : List Nat} {tm tn : List Team} {ab : List (Str × Str)} {R : List Row5} {r : Row5} (b : Bld s σ H dw da dm B ts j tm tn ab R) (hk : R[j]? = some r) : ∃ (σv : Hp) (i : Nat) (t' : Team), Rd10 s σv H dw da dm B ts (j + 1) tm tn ab (mask5 j R) /\ tn[i]? = some t' /\ t'.name = r.up /\ r.up ∈ tm.map (·.name) /\ r.name ∉ t'.l.map (·.name) /\ r.name ∉ ab.map (·.1) /\ r.name ∉ tm.map (·.name) /\ 1 <= r.share /\ r.share <= 12 /\ t'.l.length <= 1000000 /\ R.length <= 25 /\ (mask5 j R)[j]? = some (off5 r) := by
 obtain ⟨σv, d⟩ := b.v
 have hkm : (mask5 j R)[j]? = some (off5 r) := by rw [mask5_at, if_neg (Nat.lt_irrefl _), hk]; rfl
 have rl := d.rl
 rw [mask5_len] at rl
 obtain ⟨hna, hntm⟩ := gone_new d.rel d.ok.to4 (by rw [to4_len, mask5_len]; exact Nat.le_trans ‹_› (by decide)) (to4_at hkm) rfl
 have hna : r.name ∉ ab.map (·.1) := hna
 have hntm : r.name ∉ tm.map (·.name) := hntm
 have hup : r.up ∈ tm.map (·.name) := by
  rw [d.rel.tns]
  rcases (b.nw j r hk).1 with q | ⟨i, r', lt, a1, a2, a3⟩
  · exact .inl q
  · exact .inr (iEEAAA i r'.to4 (to4_at (by rw [mask5_at, if_pos lt]; exact a1)) ((b.nw i r' a1).2.1) a2 a3)
 have hin : r.up ∈ tn.map (·.name) := by rw [core_names d.cor]; exact hup
 refine eEA (Mm hin) fun t' hmt ht' => ?_
 obtain ⟨i, hi⟩ := Mi hmt
 have trn := tree_core d.cor d.rel.tr
 have zl := core_lens d.cor fun v hv => (d.rel.sh v hv).1
 have hnt : r.name ∉ t'.l.map (·.name) := fun hx => by
  refine eEA (Mm hx) fun y hy e => ?_
  obtain ⟨m, hm⟩ := Mi hy
  exact hna (Mn (iEA _ (trn.mem i t' m y hi hm) e))
 have sh := d.sh j (off5 r) hkm
 exact (iE3 σv i t' (iA11 d hi ht' hup hnt hna hntm sh.1 sh.2 (zl t' hmt) rl hkm))
def lawPost : MF -> Lo -> Hp -> Prop := fun m _ _ => m = .ret (.bool true)
theorem law_A0 : ∃ body scope, FnAt (cx w mean mg mb) a_law ["_law_script"] body scope /\ ∀ (l0 : Nat) (ns : List Int) (ol : Obj), ns.length <= 63 ->
 WSs (cx w mean mg mb) ⟨200, true, scope⟩ body (bindLo ["_law_script"] [.ref l0] fun _ => Option.none) lawPost noSX (lawHp l0 ns ol) := by
 refine (iEEA _ _ (FnAt.of1 (rfl : (Mine.hd.heap_39 w.params).lookup a_law = _) (by kernel_rfl) (fun _ => rfl) (by kernel_rfl)) ?_)
 intro l0 ns ol hz
 change WSs _ _ _ (ρ0.put "_law_script" (.ref l0)) _ _ _
 have hs : (lawHp l0 ns ol) l0 = some (0, .klist (ns.map .int) ol) := if_pos rfl
 generalize lawHp l0 ns ol = σ at hs ⊢
 refine Wc (WS.assign (fun _ _ _ => rfl) (WE.cp g_law_cell_at fn_law_cell_at (Po PL (Po PE.int PN)) ?_))
 refine Wf (cell_c (ListAt.k hs) hz (by decide) (by decide) ?_)
 generalize ns.getD (Int.toNat 2) 0 = third
 refine Wl (by kernel_rfl) ?_
 refine Wc (WS.assign (fun _ _ _ => rfl) (WE.call rfl rfl (WE.globalA (by kernel_rfl) g_law_rows_by ?_)))
 refine And.intro (Callee.fn fn_law_rows_by) ?_
 refine WEs.cons rfl (WE.cp g_law_cell_at fn_law_cell_at (Po PL (Po PE.int PN)) ?_)
 refine Wf (cell_c (ListAt.k hs) hz (by decide) (by decide) ?_)
 generalize ns.getD (Int.toNat 0) 0 = f
 refine WEs.cons rfl (WE.cp g_law_cell_at fn_law_cell_at (Po PL (Po PE.int PN)) ?_)
 refine Wf (cell_c (ListAt.k hs) hz (by decide) (by decide) ?_)
 generalize ns.getD (Int.toNat 1) 0 = sec
 refine PEs.use (Po (PE.binop PL PE.int (PB.mod (by decide))) (Po (PE.cmp1 rfl (PE.binop (PE.binop PL PE.int (PB.div (by decide) (by decide))) PE.int (PB.mod (by decide))) PE.int PC.eqI) PN)) ?_
 generalize third.fmod 520 = s
 generalize ((third.fdiv 520).fmod 8 == 3) = deep
 refine Wf (rows_by_c fun B R0 ts σ1 hR ok nw rl1 rl e1 => ?_)
 have hs1 := e1 _ _ hs
 clear hs e1
 refine Wl (by kernel_rfl) ?_
 refine Wc (WS.assign (fun _ _ _ => rfl) (WE.callP (by kernel_rfl) g_House (Callee.cls mi_House) PN rfl ?_))
 refine Wf (make_house 100 (Nat.le_refl _) fun H dw da W0 d0 σ2 h2 e2 => ?_)
 have hs2 := e2 _ _ hs1
 have hR2 := hR.ext e2
 clear hs1 hR e2
 refine Wl (by kernel_rfl) ?_
 refine Wc (WS.assign (fun _ _ _ => rfl) (WE.dict1 2 fun dm hdm => ?_))
 refine WE.str (WE.callP (by kernel_rfl) g_Wheel (Callee.cls mi_Wheel) PN rfl ?_)
 refine Wf (make_wheelF 20 fun W1 d1 σ3 n1 n2 hw e3 => ?_)
 have hdm3 := e3 _ _ Hp.self
 refine (iEAA _ rfl hdm3 ?_)
 have e4 : Extd σ2 (σ3.put dm 2 (.sdict [("", .ref W1)])) := fun a p q => Hp.ne (fun e => by have := hdm.none; rw [<- e, q] at this; exact nomatch this) (e3 _ _ (Hp.new hdm.none q))
 have m4 : MirD (σ3.put dm 2 (.sdict [("", .ref W1)])) dm [⟨"", W1, d1, 20, 0, []⟩] := ⟨Hp.self, fun t ht => by rw [List.mem_singleton.mp ht]; exact hw.keep (Kpt.put hdm3 (by decide)), by simp, by simp, fun t ht => by rw [List.mem_singleton.mp ht]; exact ⟨Nat.le_refl _, (by decide : (20 : Nat) < 96)⟩⟩
 have hs4 := e4 _ _ hs2
 have b4 := Bld.start (h2.ext e4) m4 (hR2.ext e4) ok nw rl
 generalize σ3.put dm 2 (.sdict [("", .ref W1)]) = σ4 at e4 m4 hs4 b4 ⊢
 clear hs2 hR2 h2 hdm hdm3 n1 n2 hw e3 e4 m4 ok nw
 refine Wl (by kernel_rfl) ?_
 refine Wc (WS.assign (fun _ _ _ => rfl) (WE.list 5 ?_))
 refine WEs.nil (⟨by simp, fun Hd hHd => ?_⟩)
 have e5 : Extd σ4 (σ4.put Hd 5 (.list [])) := fun a p q => Hp.new hHd.none q
 have hd5 : (σ4.put Hd 5 (.list [])) Hd = some (5, .list []) := Hp.self
 generalize σ4.put Hd 5 (.list []) = σ5 at e5 hd5 ⊢
 have hs5 := e5 _ _ hs4
 have b5 := b4.ext e5
 clear b4 hs4 e5 hHd
 have tl := b5.rows.len
 have el : ((ts.map MV.ref).length : Int) = (R0.length : Int) := by rw [List.length_map, tl]
 refine Wl (by kernel_rfl) ?_
 refine Wc (WS.for rfl (fun _ _ => rfl) ?_)
 refine WE.call rfl rfl (WE.globalA (by kernel_rfl) g_range ?_)
 refine And.intro (Callee.con rfl) (WEs.cons rfl (WE.callP (by kernel_rfl) g_len (Callee.con rfl) (Po PL PN) rfl ?_))
 refine WCall.lenList (ListAt.own b5.rows.lst) (by rw [List.length_map]; exact Nat.le_trans (Nat.le_trans (Nat.le_of_eq ‹_›) ‹_›) (by decide)) ?_
 rw [el]
 refine WEs.nil (WCall.range1 9 fun b hb => ?_)
 refine (iEEA _ _ (itR Hp.self (by omega) (by omega)) ?_)
 refine WFor.upToO (fun j ρ' σ' => (∃ tm tn ab R, Bld s σ' H dw da dm B ts j tm tn ab R /\ R.length = R0.length) /\ σ' l0 = some (0, .klist (ns.map .int) ol) /\ σ' Hd = some (5, .list []) /\ ρ' "_law_script" = some (.ref l0) /\ ρ' "_law_rows" = some (.ref B) /\ ρ' "_law_house" = some (.ref H) /\ ρ' "_law_wheels" = some (.ref dm) /\ ρ' "_law_held" = some (.ref Hd) /\ ρ' (".0" : Str) = Option.none) ?_ ?_ ?_
 · have e6 : Extd σ5 (σ5.put b 9 (.range 0 (R0.length : Int))) := fun a p q => Hp.new hb.none q
   exact (iA8 (iE4 _ _ _ R0 ⟨b5.ext e6, rfl⟩) (e6 _ _ hs5) (e6 _ _ hd5) (by walk_at "lk") (by walk_at "lk") (by walk_at "lk") (by walk_at "lk") (by walk_at "lk") (by ((repeat (first | assumption | (refine Lo.put_ne (by kernel_rfl) ?_))); rfl)))
 · clear b5 hs5 hd5 hb el tl
   rintro j ρ' σ' hj ⟨⟨tm, tn, ab, R, b, rlen⟩, hs, hHd, r0, r1, r2, r3, r4, r5⟩
   intro KL hKL
   have tl := b.rows.len
   have hlt : j < R.length := by omega
   have hr : R[j]? = some R[j] := List.getElem?_eq_getElem hlt
   generalize R[j] = r at hr
   refine eE3 (b.next hr) fun σv i t' y0' => eA11 y0' fun d hi ht' hup hnt hna hntm sh0 sh1 zl rl5 hkm => ?_
   have hrd := (b.nw j r hr).2.2 (Nat.le_refl _)
   have hh := (b.nw j r hr).2.1
   refine eEA (b.rows.at hr) fun u hu hru => ?_
   have hB := b.rows.lst
   have hx1 : (ts.map MV.ref)[((j : Nat) : Int).toNat]? = some (.ref u) := by rw [Int.toNat_natCast, List.getElem?_map, hu]; rfl
   have j0 : 0 <= ((j : Nat) : Int) := Int.natCast_nonneg j
   have j1 : ((j : Nat) : Int) < 2 ^ 63 := by omega
   have hdm := b.m.dic
   have hmt := Mg hi
   have hgt := getK_mir b.m hmt
   rw [ht'] at hgt
   have hwt := b.m.whl t' hmt
   have hW : σ' t'.W = some (t'.g, .inst a_Wheel [("past", .int t'.past), ("sharers", .ref t'.d)]) := hwt.whl
   have gg := b.m.gg t' hmt
   have z0 : [MV.str r.name, .str r.up, .int r.share, .bool r.team, .bool r.rdy, .bool r.here][Int.toNat 0]? = some (.str r.name) := rfl
   have z1 : [MV.str r.name, .str r.up, .int r.share, .bool r.team, .bool r.rdy, .bool r.here][Int.toNat 1]? = some (.str r.up) := rfl
   have z2 : [MV.str r.name, .str r.up, .int r.share, .bool r.team, .bool r.rdy, .bool r.here][Int.toNat 2]? = some (.int r.share) := rfl
   have z3 : [MV.str r.name, .str r.up, .int r.share, .bool r.team, .bool r.rdy, .bool r.here][Int.toNat 3]? = some (.bool r.team) := rfl
   refine Wl (by kernel_rfl) ?_
   refine WSs.assignP (fun _ _ _ => rfl) (PE.sub PL PL (PI.list (fun _ _ => rfl) (ListAt.own ‹_›) (by with_reducible assumption) (by with_reducible assumption) ‹_›)) (by kernel_rfl) ?_
   refine Wc (WS.expr (fun _ _ _ => rfl) (WE.mp (PE.sub PL (Px PL ‹_› ‹_›) (PI.sdict (fun _ _ => rfl) ‹_› ‹_›)) ‹_› ms_Wheel_enter (Po (Px PL ‹_› ‹_›) (Po (Px PL ‹_› ‹_›) PN)) ?_))
   refine Wf (enter_c hwt hnt sh0 sh1 zl fun a σ2 h2 o2 => ?_)
   have m2 := b.m.one (t' := { t' with l := t'.l ++ [⟨r.name, a, r.share, 0, false⟩] }) hi rfl rfl rfl h2 o2
   have en2 : Ent tn r.up r.name r.share (tn.set i { t' with l := t'.l ++ [⟨r.name, a, r.share, 0, false⟩] }) := (iEEEAA i t' a hi ht' rfl)
   have hru2 := o2.at hru (om_lo ‹_› (by first | assumption | decide))
   have hR2 := b.rows.keep (σ' := σ2) (fun q => o2.at q (om_lo ‹_› (by first | assumption | decide))) (fun q => o2.at q (om_lo ‹_› (by first | assumption | decide)))
   have hh2 := b.h.keep (σ' := σ2) (fun q => o2.at q (om_lo ‹_› (by first | assumption | decide))) (fun q w => o2.at q (om_hi ‹_› ‹_›))
   have hs2 := o2.at hs (om_lo ‹_› (by first | assumption | decide))
   have hHd2 := o2.at hHd (om_lo ‹_› (by first | assumption | decide))
   have gk2 : ∀ v ∈ tn.set i { t' with l := t'.l ++ [⟨r.name, a, r.share, 0, false⟩] }, v.g < 21 + (j + 1) := fun v hv => by
    rcases mem_set_or hv with rfl | ⟨m, _, hm⟩
    · exact d.gk t' hmt
    · exact d.gk v (Mg hm)
   have nm2 : (tn.set i { t' with l := t'.l ++ [⟨r.name, a, r.share, 0, false⟩] }).map (·.name) = tm.map (·.name) := by rw [map_set_same (fun v : Team => v.name) (y := { t' with l := t'.l ++ [⟨r.name, a, r.share, 0, false⟩] }) hi rfl]; exact core_names d.cor
   have tl2 : (tn.set i { t' with l := t'.l ++ [⟨r.name, a, r.share, 0, false⟩] }).length = tm.length := by have := congrArg List.length nm2; rwa [List.length_map, List.length_map] at this
   generalize tn.set i { t' with l := t'.l ++ [⟨r.name, a, r.share, 0, false⟩] } = tn2 at m2 en2 gk2 nm2 tl2
   clear hwt hW h2 o2 hru hdm hgt hs hHd hB
   have tmN := d.bd.tl
   have hB2 := hR2.lst
   have hHo2 := hh2.hou
   have rl4 : ((mask5 j R).map Row5.to4).length <= 26 := by rw [to4_len, mask5_len]; exact Nat.le_trans ‹_› (by decide)
   have e4 : ∀ tb : Bool, r.team = tb -> ({ (off5 r).to4 with up := r.up, team := tb, here := true } : Row4) = r.to4 := fun tb e => by
    rw [<- e]; unfold Row5.to4 off5; rw [hh]
   cases hteam : r.team with
   | true =>
    rw [hteam] at hru2 z0 z1 z2 z3
    refine WSs.thenP (PT.plain (fun _ _ => rfl) (Px PL ‹_› ‹_›)) rfl ?_
    refine Wc (WS.expr (fun _ _ _ => rfl) (WE.mp PL ‹_› ms_House_team (Po (Px PL ‹_› ‹_›) (Po (Px PL ‹_› ‹_›) (Po (Px PL ‹_› ‹_›) PN))) ?_))
    refine Wf (come_team (r := (off5 r).to4) hh2 d.rel d.ok.to4 rl4 d.bd (by omega) (to4_at hkm) rfl hup sh0 sh1 fun tm' ab' σ4 h4 rel4 bd4 k4 en4 => ?_)
    rw [e4 true hteam] at rel4
    refine eE4 en4 fun tm0 W0' d0' g0 y0' => eA1 y0' fun en0 etm => ?_; clear en4
    have m4 := m2.keep (σ' := σ4) fun q w1 w2 => k4 _ _ _ q w1 w2
    have hu4 := k4 _ _ _ hru2 (by decide) (by decide)
    have hR4 := hR2.keep (σ' := σ4) (fun q => k4 _ _ _ q (by decide) (by decide)) (fun q => k4 _ _ _ q (by decide) (by decide))
    refine Wc (WS.setItem (fun _ _ _ => rfl) (WE.callP (by kernel_rfl) g_Wheel (Callee.cls mi_Wheel) PN rfl ?_))
    refine Wf (make_wheelF (21 + (j + 1)) fun W d' σ5 nW nd hw5 e5 => ?_)
    have m5 := m4.keep (σ' := σ5) fun q _ _ => e5 _ _ q
    have hdm5 := m5.dic
    have hu5 := e5 _ _ hu4
    have nn : r.name ∉ tn2.map (·.name) := by rw [nm2]; exact hntm
    have ng : 21 + (j + 1) ∉ tn2.map (·.g) := fun hm => by
     refine eEA (Mm hm) fun v hv ev => ?_
     have := gk2 v hv
     omega
    have m6 := m5.add hw5 nn ng (by omega) (by omega)
    have ep : putK (tents tn2) r.name (.ref W) = tents (tn2 ++ [⟨r.name, W, d', 21 + (j + 1), 0, []⟩]) := by
     rw [putK_no (by rw [tents_names]; exact nn)]
     unfold tents
     rw [List.map_append]; rfl
    refine WE.lo ?_
    refine PE.use (Px PL ‹_› ‹_›) ?_
    refine WPut.sdict hdm5 (by unfold tents; rw [List.length_map]; omega) ?_
    rw [ep]
    have k6 : ∀ {a t o}, σ5 a = some (t, o) -> t ≠ 2 -> (σ5.put dm 2 (.sdict (tents (tn2 ++ [⟨r.name, W, d', 21 + (j + 1), 0, []⟩])))) a = some (t, o) := fun q w => Hp.tag hdm5 w q
    have h6 : HouseD (σ5.put dm 2 (.sdict (tents (tn2 ++ [⟨r.name, W, d', 21 + (j + 1), 0, []⟩])))) H dw da tm' ab' := h4.keep (fun q => k6 (e5 _ _ q) (by decide)) (fun q w => k6 (e5 _ _ q) (by omega))
    have b6 := b.come hr h6 m6 (by rw [etm, List.map_append, List.map_append, ent_det d.cor d.h.tn en0 en2]; rfl) rel4 bd4 (fun t ht => by
     rcases List.mem_append.mp ht with q | q
     · exact Nat.lt_succ_of_lt (gk2 t q)
     · rw [List.mem_singleton.mp q]; exact Nat.lt_succ_self _) (by
     subst etm
     intro m q hm h1 h2 t0 ht0 x0 hx0 ex
     rcases List.mem_append.mp ht0 with w' | w'
     · exact rdy_ent (y := r) d.rdyM d.rel.tr hkm (d.uq hkm) hna en0 rfl hrd m q hm h1 h2 t0 w' x0 hx0 ex
     · rw [List.mem_singleton.mp w'] at hx0; exact nomatch hx0) (hR4.keep (fun q => k6 (e5 _ _ q) (by decide)) (fun q => k6 (e5 _ _ q) (by decide)))
    refine Wn (Wn ?_)
    exact hKL _ _ (iA8 (iE4 _ _ _ R ⟨b6, rlen⟩) (k6 (e5 _ _ (k4 _ _ _ hs2 (by decide) (by decide))) (by decide)) (k6 (e5 _ _ (k4 _ _ _ hHd2 (by decide) (by decide))) (by decide)) (by walk_at "lk") (by walk_at "lk") (by walk_at "lk") (by walk_at "lk") (by walk_at "lk") (by ((repeat (first | assumption | (refine Lo.put_ne (by kernel_rfl) ?_))))))
   | false =>
    rw [hteam] at hru2 z0 z1 z2 z3
    refine WSs.elseP (PT.plain (fun _ _ => rfl) (Px PL ‹_› ‹_›)) rfl ?_
    refine Wc (WS.expr (fun _ _ _ => rfl) (WE.mp PL ‹_› ms_House_hand (Po (Px PL ‹_› ‹_›) (Po (Px PL ‹_› ‹_›) (Po (Px PL ‹_› ‹_›) PN))) ?_))
    refine Wf (come_hand (r := (off5 r).to4) hh2 d.rel d.ok.to4 rl4 d.bd (by omega) (to4_at hkm) rfl hup sh0 sh1 fun tm' ab' σ4 h4 rel4 bd4 k4 en4 => ?_)
    rw [e4 false hteam] at rel4
    have hs4 := k4 _ _ _ hs2 (by decide) (by decide)
    have hHd4 := k4 _ _ _ hHd2 (by decide) (by decide)
    have b6 := b.come hr h4 (m2.keep (σ' := σ4) fun q w1 w2 => k4 _ _ _ q w1 w2) (ent_det d.cor d.h.tn en4 en2) rel4 bd4 (fun t ht => Nat.lt_succ_of_lt (gk2 t ht)) (rdy_ent (y := r) d.rdyM d.rel.tr hkm (d.uq hkm) hna en4 rfl hrd) (hR2.keep (fun q => k4 _ _ _ q (by decide) (by decide)) (fun q => k4 _ _ _ q (by decide) (by decide)))
    clear hru2 hB2 hHo2
    refine Wc (WS.ite (WT.bool (WA.and (WT.cmp1 rfl (WE.binop (WE.binop (WE.cp g_law_cell_at fn_law_cell_at (Po PL (Po PE.int PN)) ?_)))))))
    refine Wf (cell_c (ListAt.k hs4) hz (by decide) (by decide) ?_)
    generalize ns.getD (Int.toNat 3) 0 = fourth
    by_cases hw : (fourth + (j : Int)).fmod 3 > 0
    · skip
      refine WE.lo ?_
      refine WB.add ?_
      refine WE.int (WB.mod (by decide) ?_)
      refine WE.int (WC.gt ?_)
      refine Wb (if_dt ‹_› ?_)
      refine WA.and (WT.not (WT.plain (fun _ _ => rfl) (WE.cp g_law_woken fn_law_woken (Po PL (Po PL (Po PL (Po PL (Po PE.bool PN))))) ?_)))
      refine Wf (wokenB_c b6 (by omega) hr hrd hteam hu fun tm5 tn5 σ5 b7 k5 => ?_)
      refine Wb (if_nt ?_)
      refine if_ff (Wn (Wn (Wn ?_)))
      exact hKL _ _ (iA8 (iE4 _ _ _ _ ⟨b7, by rw [List.length_set]; exact rlen⟩) (k5 _ _ _ hs4 (by decide) (by decide) (by decide) (by decide)) (k5 _ _ _ hHd4 (by decide) (by decide) (by decide) (by decide)) (by walk_at "lk") (by walk_at "lk") (by walk_at "lk") (by walk_at "lk") (by walk_at "lk") (by ((repeat (first | assumption | (refine Lo.put_ne (by kernel_rfl) ?_))))))
    · skip
      refine WE.lo ?_
      refine WB.add ?_
      refine WE.int (WB.mod (by decide) ?_)
      refine WE.int (WC.gt ?_)
      refine Wb (if_df ‹_› ?_)
      refine if_ff (Wn (Wn (Wn ?_)))
      exact hKL _ _ (iA8 (iE4 _ _ _ R ⟨b6, rlen⟩) hs4 hHd4 (by walk_at "lk") (by walk_at "lk") (by walk_at "lk") (by walk_at "lk") (by walk_at "lk") (by ((repeat (first | assumption | (refine Lo.put_ne (by kernel_rfl) ?_))))))
 clear b5 hs5 hd5 hb el tl
 rintro ρ' σ' ⟨⟨tm, tn, ab, R1, b, rlen⟩, hs, hHd, r0, r1, r2, r3, r4, r5⟩
 rw [Int.toNat_natCast, <- rlen] at b
 have d := b.done.le (N' := 26) (by omega)
 clear b
 refine Wc (WS.for rfl (fun _ _ => rfl) ?_)
 refine WE.sliceBoth 10 ?_
 refine WE.lo ?_
 refine WE.int (WE.int ((iE4 l0 _ 4 44 (iA6 rfl rfl rfl (by decide) (ListAt.k hs) (mapLe (Nat.le_trans hz (by decide))) (fun C hC => ?_)))))
 have l10 : (((ns.map MV.int).take 44).drop 4).length <= 40 := by
  rw [List.length_drop, List.length_take, List.length_map]; omega
 refine (iEEA _ _ (Iterable.list (ListAt.own Hp.self)) ?_)
 have e6 : Extd σ' (σ'.put C 10 (.list (((ns.map MV.int).take 44).drop 4))) := fun a p q => Hp.new hC.none q
 have hC6 : (σ'.put C 10 (.list (((ns.map MV.int).take 44).drop 4))) C = some (10, .list (((ns.map MV.int).take 44).drop 4)) := Hp.self
 generalize σ'.put C 10 (.list (((ns.map MV.int).take 44).drop 4)) = σ6 at e6 hC6 ⊢
 have cells : ∀ (i : Nat) v, (((ns.map MV.int).take 44).drop 4)[i]? = some v -> ∃ c : Int, v = .int c := fun i v hv => by
  refine eEA (Mm (List.mem_of_mem_take (List.mem_of_mem_drop (Mg hv)))) fun c _ e => ?_
  exact ⟨c, e.symm⟩
 generalize ((ns.map MV.int).take 44).drop 4 = items at hC6 cells l10 ⊢
 have d6 := d.ext e6
 have hHd6 := e6 _ _ hHd
 clear d hs e6 hC hHd
 refine WFor.byIdxO (fun i ρ' σ' => (∃ tm tn ab R vs, Rd10 s σ' H dw da dm B ts (26 + i) tm tn ab R /\ R.length = R1.length /\ σ' Hd = some (5, .list vs) /\ vs.length <= 9 * i /\ ∀ v ∈ vs, Held10 σ' v) /\ σ' C = some (10, .list items) /\ ρ' "_law_rows" = some (.ref B) /\ ρ' "_law_house" = some (.ref H) /\ ρ' "_law_wheels" = some (.ref dm) /\ ρ' "_law_held" = some (.ref Hd) /\ ρ' (".0" : Str) = Option.none) ?_ ?_ ?_
 · exact (iA6 (iE5 tm tn ab R1 ([]) (iA4 d6 rfl hHd6 (Nat.zero_le _) (fun v hv => nomatch hv))) hC6 (by walk_at "lk") (by walk_at "lk") (by walk_at "lk") (by walk_at "lk") (by ((repeat (first | assumption | (refine Lo.put_ne (by kernel_rfl) ?_))))))
 · clear d6 hC6 hHd6 r0 r1 r2 r3 r4 r5
   clear ρ' σ'
   rintro i v ρ' σ' hv ⟨⟨tm, tn, ab, R, vs, d, rl', hHd, vl, hvs⟩, hC, r1, r2, r3, r4, r5⟩
   obtain ⟨cell, rfl⟩ := cells i v hv
   have il : i < 40 := Nat.lt_of_lt_of_le (Gs hv).1 l10
   refine ⟨ListAt.own hC, ?_⟩
   intro KL hKL
   refine Wl (by kernel_rfl) ?_
   refine Wc (WS.ite (WT.not (WT.plain (fun _ _ => rfl) (WE.cp g_law_deed fn_law_deed (Po PL (Po PL (Po PL (Po PL (Po PL PN))))) ?_))))
   refine Wf (deed_c d (by omega) (by omega) hHd (by omega) hvs fun tm2 tn2 ab2 R2 vs2 σ2 d2 rl2 hHd2 vl2 hvs2 k2 => ?_)
   have hC2 := k2 _ _ _ hC (by decide) (by decide) (by decide) (by decide) (by decide)
   clear d hC hHd hvs
   have tl2 := d2.rows.len
   have rl25 := d2.rl
   have hB2 := d2.rows.lst
   have el2 : ((ts.map MV.ref).length : Int) = (R2.length : Int) := by rw [List.length_map, tl2]
   refine Wb (if_nt ?_)
   refine Wn (WSs.assignP (fun _ _ _ => rfl) (PE.binop (PE.binop PL PE.int (PB.mul (IntMulOk.of_right (by decide)))) PE.int (PB.mod (by decide))) (by kernel_rfl) ?_)
   refine Wc (WS.ite (WT.bool (WA.and (WT.bool (WA.or (WT.cmp1 rfl (WE.callP (by kernel_rfl) g_len (Callee.con rfl) (Po PL PN) rfl ?_)))))))
   refine WCall.lenList (ListAt.own hB2) (by rw [List.length_map]; exact Nat.le_trans (Nat.le_trans (Nat.le_of_eq ‹_›) ‹_›) (by decide)) ?_
   rw [el2]
   have fin : ∀ {σ3 : Hp} {ρ3 : Lo}, Extd σ2 σ3 -> ρ3 "_law_rows" = some (.ref B) -> ρ3 "_law_house" = some (.ref H) -> ρ3 "_law_wheels" = some (.ref dm) -> ρ3 "_law_held" = some (.ref Hd) -> ρ3 (".0" : Str) = Option.none -> KL .next ρ3 σ3 := fun {σ3 ρ3} e q1 q2 q3 q4 q5 => hKL _ _ (iA6 (iE5 tm2 tn2 ab2 R2 vs2 (iA4 (d2.ext e) (by omega) (e _ _ hHd2) (by omega) (fun v hv => (hvs2 v hv).keep (fun q => e _ _ q) (fun q => e _ _ q)))) (e _ _ hC2) q1 q2 q3 q4 q5)
   by_cases c10 : (R2.length : Int) < 10
   · skip
     refine WE.int (WC.lt ?_)
     refine Wb (if_dt ‹_› ?_)
     refine if_tt (WA.and (WT.not (WT.plain (fun _ _ => rfl) (WE.cp g_law_good fn_law_good (Po PL (Po PL (Po PL (Po PL PN)))) ?_))))
     refine Wf (good_c d2 (by omega) fun σ3 e3 => ?_)
     refine Wb (if_nt ?_)
     refine if_ff (Wn (Wn ?_))
     exact fin e3 (by walk_at "lk") (by walk_at "lk") (by walk_at "lk") (by walk_at "lk") (by ((repeat (first | assumption | (refine Lo.put_ne (by kernel_rfl) ?_)))))
   · by_cases c7 : cell.fmod 7 = 0
     · skip
       refine WE.int (WC.lt ?_)
       refine Wb (if_df ‹_› ?_)
       refine WA.or (PT.use (PT.cmp1 rfl (PE.binop PL PE.int (PB.mod (by decide))) PE.int PC.eqI) ?_)
       refine if_et ‹_› ?_
       refine if_tt (WA.and (WT.not (WT.plain (fun _ _ => rfl) (WE.cp g_law_good fn_law_good (Po PL (Po PL (Po PL (Po PL PN)))) ?_))))
       refine Wf (good_c d2 (by omega) fun σ3 e3 => ?_)
       refine Wb (if_nt ?_)
       refine if_ff (Wn (Wn ?_))
       exact fin e3 (by walk_at "lk") (by walk_at "lk") (by walk_at "lk") (by walk_at "lk") (by ((repeat (first | assumption | (refine Lo.put_ne (by kernel_rfl) ?_)))))
     · have b7 : (cell.fmod 7 == 0) = false := beq_eq_false_iff_ne.mpr c7
       refine WE.int (WC.lt ?_)
       refine Wb (if_df ‹_› ?_)
       refine WA.or (PT.use (PT.cmp1 rfl (PE.binop PL PE.int (PB.mod (by decide))) PE.int PC.eqI) ?_)
       refine if_pf ‹_› ?_
       refine WA.or_nil (if_ff (if_ff (Wn (Wn ?_))))
       exact fin (fun _ _ q => q) (by walk_at "lk") (by walk_at "lk") (by walk_at "lk") (by walk_at "lk") (by ((repeat (first | assumption | (refine Lo.put_ne (by kernel_rfl) ?_)))))
 · clear d6 hC6 hHd6 r0 r1 r2 r3 r4 r5
   clear ρ' σ'
   rintro ρ' σ' ⟨⟨tm, tn, ab, R, vs, d, rl', hHd, vl, hvs⟩, hC, r1, r2, r3, r4, r5⟩
   refine ⟨ListAt.own hC, ?_⟩
   clear hC
   refine Wc (WS.for rfl (fun _ _ => rfl) ?_)
   refine WE.list 9 ?_
   refine WEs.cons rfl (WE.str (WEs.cons rfl (WE.str (WEs.cons rfl (WE.int (WEs.cons rfl (WE.none (WEs.cons rfl (WE.list 9 ?_)))))))))
   refine PEs.use (Po PE.str PN) ?_
   refine ⟨by simp, fun A hA => ?_⟩
   refine PEs.use (Po PE.bool PN) ?_
   refine ⟨by simp, fun O hO => ?_⟩
   refine (iEEA _ _ (Iterable.list (ListAt.own Hp.self)) ?_)
   have e7 : Extd σ' ((σ'.put A 9 (.list [.str "a"])).put O 9 (.list [.str "zzzzzzzz", .str "", .int 7, .none, .ref A, .bool true])) := fun a p q => Hp.new hO.none (Hp.new hA.none q)
   have hA7 : ((σ'.put A 9 (.list [.str "a"])).put O 9 (.list [.str "zzzzzzzz", .str "", .int 7, .none, .ref A, .bool true])) A = some (9, .list [.str "a"]) := Hp.new hO.none Hp.self
   have hO7 : ((σ'.put A 9 (.list [.str "a"])).put O 9 (.list [.str "zzzzzzzz", .str "", .int 7, .none, .ref A, .bool true])) O = some (9, .list [.str "zzzzzzzz", .str "", .int 7, .none, .ref A, .bool true]) := Hp.self
   generalize (σ'.put A 9 (.list [.str "a"])).put O 9 (.list [.str "zzzzzzzz", .str "", .int 7, .none, .ref A, .bool true]) = σ7 at e7 hA7 hO7 ⊢
   have d7 := d.ext e7
   have hHd7 := e7 _ _ hHd
   have hvs7 : ∀ v ∈ vs, Held10 σ7 v := fun v hv => (hvs v hv).keep (fun q => e7 _ _ q) (fun q => e7 _ _ q)
   clear d hHd hvs hA hO e7
   refine WFor.byIdxO (fun _ ρ' σ' => Extd σ7 σ' /\ ρ' "_law_rows" = some (.ref B) /\ ρ' "_law_house" = some (.ref H) /\ ρ' "_law_wheels" = some (.ref dm) /\ ρ' "_law_held" = some (.ref Hd) /\ ρ' (".0" : Str) = Option.none) ?_ ?_ ?_
   · exact (iA5 (fun _ _ q => q) (by walk_at "lk") (by walk_at "lk") (by walk_at "lk") (by walk_at "lk") (by ((repeat (first | assumption | (refine Lo.put_ne (by kernel_rfl) ?_))))))
   · clear r1 r2 r3 r4 r5
     clear ρ' σ'
     rintro i v ρ' σ8 hv ⟨e8, r1, r2, r3, r4, r5⟩
     refine ⟨ListAt.own (e8 _ _ hO7), ?_⟩
     have hvm := Mg hv
     intro KL hKL
     have bs : (("no name" : Str) != "no name") = false := bne_self_eq_false ..
     refine Wl (by kernel_rfl) ?_
     refine Wc (WS.ite (WT.bool (WA.or (WT.cmp1 rfl (WE.cp g_law_moved fn_law_moved (Po PL (Po PL (Po PE.bool PN))) ?_)))))
     refine Wf (odd_moved (d7.ext e8) (e8 _ _ hA7) hvm fun σ9 e9 => ?_)
     refine WE.str (WC.neS ?_)
     refine Wb (if_pf ‹_› ?_)
     refine WA.or (WT.cmp1 rfl (WE.cp g_law_moved fn_law_moved (Po PL (Po PL (Po PE.bool PN))) ?_))
     refine Wf (odd_moved ((d7.ext e8).ext e9) (e9 _ _ (e8 _ _ hA7)) hvm fun σ10 e10 => ?_)
     refine WE.str (WC.neS ?_)
     refine Wb (if_pf ‹_› ?_)
     refine WA.or_nil (if_ff (Wn (Wn ?_)))
     exact hKL _ _ (iA5 (fun a p q => e10 _ _ (e9 _ _ (e8 _ _ q))) (by walk_at "lk") (by walk_at "lk") (by walk_at "lk") (by walk_at "lk") (by ((repeat (first | assumption | (refine Lo.put_ne (by kernel_rfl) ?_))))))
   · clear r1 r2 r3 r4 r5
     clear ρ' σ'
     rintro ρ' σ8 ⟨e8, r1, r2, r3, r4, r5⟩
     refine ⟨ListAt.own (e8 _ _ hO7), ?_⟩
     refine Wc (WS.ret (WE.and (WE.cp g_law_good fn_law_good (Po PL (Po PL (Po PL (Po PE.int PN)))) ?_)))
     refine Wf (good_c (d7.ext e8) (by omega) fun σ9 e9 => ?_)
     have hHd9 := e9 _ _ (e8 _ _ hHd7)
     have hvs9 : ∀ v ∈ vs, Held10 σ9 v := fun v hv => (hvs7 v hv).keep (fun q => e9 _ _ (e8 _ _ q)) (fun q => e9 _ _ (e8 _ _ q))
     refine Wb (if_tt (WE.and1 ?_))
     refine WE.cmp1 rfl (WE.compA 9 rfl (fun _ _ => rfl) (by kernel_rfl) (by ((repeat (first | assumption | (refine Lo.put_ne (by kernel_rfl) ?_))))) ?_)
     refine WE.lo ?_
     refine (iEEAA _ _ (Iterable.list (ListAt.own hHd9)) (by omega) ?_)
     refine held_eqT hHd9 hvs9 (fun u L L2 p hu hL hL2 K hK => ?_) fun D hD => ?_
     · skip
       refine WT.cmp1 rfl (WE.sub (WE.lo ?_))
       refine WE.int (WSub.tuple (fun _ _ => rfl) hu (by decide) (by decide) rfl ?_)
       refine WE.sub (WE.lo ?_)
       refine WE.int (WSub.tuple (fun _ _ => rfl) hu (by decide) (by decide) rfl ?_)
       refine WC.ne (Nat.succ_le_succ (Nat.zero_le _)) (by decide) (RnV.listT (k := 0) (ListAt.own hL) (ListAt.own hL2) (strs_self p)) ?_
       refine Wb ?_
       exact hK
     refine WE.list 9 ?_
     refine WEs.nil (⟨by simp, fun E hE => ?_⟩)
     refine WC.eq (Nat.succ_le_succ (Nat.zero_le _)) (by decide) (eqNil (us := []) (Hp.new hE.none Hp.self) Hp.self).1 ?_
     exact rfl
end Mine
open PySem PySem.W PyProof.Rows
set_option maxRecDepth 100000 in
set_option maxHeartbeats 8000000 in
theorem PySem.Challenge.cw_uf030004_10_holds : PySem.Challenge.rw_uf030004_10.Holds := by
 refine Mine.hd ?_
 k_fill
 intro w s₀ s₁ mg mb G Y fa o pm cd doc dV kV ho hd hcd hD hmg hg args vals as hpre hlay hrd hwl hlo
 have KX := kIn_of Y
 have X := (Ground.X G).1
 have V := (Ground.X G).2
 refine Ground.open G ?_
 intro T B D TE TW
 wrow_args hpre hlay hrd hwl hlo
 all_goals (first | refine callC_kw (enter_call ?_) | refine enter_call ?_ | refine callC_kw (enter_callW ?_) | refine enter_callW ?_ | w_how)
 all_goals w_top on
 refine codeAny_mono ?_ (fun _ _ g => GoodW.toG g)
 have he := Dflts.none hD rfl
 subst he
 have he := Dflts.noKw hD
 subst he
 obtain ⟨body, scope, F, hw⟩ := Mine.law_A0 (w := w) (mean := ExcName.means s₀.heap) (mg := mg) (mb := mb)
 refine Mine.law_enter (c := Mine.cx w (ExcName.means s₀.heap) mg mb) (Mine.cx_ok w _ mg mb) (p := "_law_script") ho hd hcd KX T (fun u => rfl) (by decide +kernel) (by assumption) (by assumption) (fun ol => ?_) fun s' hk ho hg' => ?_
 · have F' : Mine.FnAt (Mine.cx w (ExcName.means s₀.heap) mg mb) Mine.a_law ["_law_script"] _ _ := (Mine.FnAt.of1 (rfl : (Mine.hd.heap_39 w.params).lookup Mine.a_law = _) (by kernel_rfl) (fun _ => rfl) (by kernel_rfl))
   obtain ⟨rfl, rfl⟩ := Mine.FnAt.unique F F'
   exact hw _ _ ol (by omega)
 · exact ⟨.inl ⟨_, _, _, rfl, fun cls => rfl, ReadsW.bool true, by kernel_rfl, fun _ => ⟨List.nodup_nil, fun a h => by cases h⟩⟩, hk, ho, hg'.trans hg⟩
