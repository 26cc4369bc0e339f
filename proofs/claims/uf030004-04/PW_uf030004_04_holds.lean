import PyProof.Rows.All
import Wide.All
import OpenK.AllK
import Wide.FinOn
import PySem.Challenge.RW_uf030004_04
set_option linter.all false
set_option Elab.async false
set_option genSizeOfSpec false
set_option maxHeartbeats 4000000
set_option maxRecDepth 100000
open PySem PySem.W PyProof.Rows
namespace Mine
inductive MV where
  | none | bool (b : Bool) | int (i : Int) | str (x : Str) | ref (a : Nat) | con (v : Value)
def MV.Is : MV → Value → Prop
  | .none, v => v = .none
  | .bool b, v => v = .bool b
  | .int i, v => ∃ t, v = .int i t
  | .str x, v => ∃ t, v = .str x t
  | .ref a, v => v = .ref a
  | .con c, v => v = c
inductive All2 {α β : Type} (R : α → β → Prop) : List α → List β → Prop
  | nil : All2 R [] []
  | cons {a b l m} : R a b → All2 R l m → All2 R (a :: l) (b :: m)
theorem All2.length {α β : Type} {R : α → β → Prop} {l : List α} {m : List β} (h : All2 R l m) : l.length = m.length := by
  induction h with
  | nil => rfl
  | cons _ _ ih => simp [ih]
theorem All2.get {α β : Type} {R : α → β → Prop} {l : List α} {m : List β} (h : All2 R l m) : ∀ {i : Nat} {a : α}, l[i]? = some a → ∃ b, m[i]? = some b ∧ R a b := by
  induction h with
  | nil => intro i a e; simp at e
  | cons r _ ih =>
    intro i a e
    cases i with
    | zero => simp at e; subst e; exact ⟨_, by simp, r⟩
    | succ i => simp at e; simpa using ih e
theorem All2.append {α β : Type} {R : α → β → Prop} {l l' : List α} {m m' : List β} (h : All2 R l m) (h' : All2 R l' m') : All2 R (l ++ l') (m ++ m') := by
  induction h with
  | nil => exact h'
  | cons r _ ih => exact .cons r ih
theorem All2.set {α β : Type} {R : α → β → Prop} {l : List α} {m : List β} (h : All2 R l m) {a : α} {b : β} (r : R a b) : ∀ (i : Nat), All2 R (l.set i a) (m.set i b) := by
  induction h with
  | nil => intro i; simp; exact .nil
  | cons r' h ih =>
    intro i
    cases i with
    | zero => exact .cons r h
    | succ i => exact .cons r' (ih i)
inductive MO where
  | list (xs : List MV) | tuple (xs : List MV) | sdict (es : List (Str × MV)) | idict (es : List (Int × MV)) (ep : Nat) | inst (C : Nat) (fs : List (Str × MV)) | exc (C : Nat) | range (lo hi : Int) | klist (xs : List MV) (o : Obj)
def FieldsAre (P : Params) : List (Str × MV) → List DictEntry → Prop :=
  All2 fun p e => e.hash = PyData.keyHash P p.1 ∧ (∃ t, e.key = .str p.1 t) ∧ p.2.Is e.val
def KeyIs {κ : Type} [DecidableEq κ] {prog : Program} {w : World} (knd : KeyKind prog w κ) (o : Obj) (es : List (κ × MV)) : Prop :=
  ∃ kvs : List (κ × Value), o.IsDictOf knd kvs ∧ All2 (fun (p : κ × MV) (q : κ × Value) => p.1 = q.1 ∧ p.2.Is q.2) es kvs
def ObjAt (prog : Program) (w : World) (h : Heap) (a : Nat) : MO → Prop
  | .list xs => ∃ its n, h.get? a = some (listOf its n) ∧ All2 MV.Is xs its.toList
  | .tuple xs => ∃ its n, h.get? a = some ({ cls := .type "tuple", data := .seq its n } : Obj) ∧ All2 MV.Is xs its.toList
  | .sdict es => (a == sysModules) = false ∧ ∃ o, h.get? a = some o ∧ KeyIs (strKind prog w) o es
  | .idict es ep => (a == sysModules) = false ∧ ∃ o, h.get? a = some o ∧ KeyIs (intKind prog w) o es ∧ ∃ q, o.data = .dict q ep
  | .inst C fs => ∃ d es n, a = d + 1 ∧ h.get? a = some (instObj C d) ∧ h.get? d = some (dictOf es n) ∧ FieldsAre w.params fs es
  | .exc C => ∃ o, h.get? a = some o ∧ o.cls = .ref C ∧ notCls o = true
  | .range lo hi => ∃ t u v, IsRange h a lo hi 1 t u v
  | .klist xs o => h.get? a = some o ∧ o.cls = .type "list" ∧ ∃ its n, o.data = .seq its n ∧ All2 MV.Is xs its.toList
def MO.isK : MO → Bool
  | .klist .. => true
  | _ => false
abbrev Hp := Nat → Option (Nat × MO)
abbrev Lo := Str → Option MV
def Hp.put (σ : Hp) (a : Nat) (t : Nat) (o : MO) : Hp := fun b => if b = a then some (t, o) else σ b
def Lo.put (ρ : Lo) (x : Str) (v : MV) : Lo := fun y => if y = x then some v else ρ y
def Foot (σ : Hp) (a : Nat) : Prop := (∃ t mo, σ a = some (t, mo) ∧ mo.isK = false) ∨ ∃ t C fs, σ (a + 1) = some (t, .inst C fs)
set_option genInjectivity false in
structure Fm where
  A : Around
  env : Env
  top : Env
  outer : List Env
  slotted : List Nat
  base : Heap
abbrev Fm.L (f : Fm) : Nat := f.env.locals
abbrev Fm.cells (f : Fm) : List (Str × Nat) := f.env.cells
abbrev Fm.scope (f : Fm) : Scope := f.env.scope
def frameAddrs (l : List Env) : List Nat := l.filterMap (·.frame)
def OptIs : Option MV → Option Value → Prop
  | some m, some v => m.Is v
  | none, _ => True
  | some _, none => False
structure Rel (prog : Program) (w : World) (f : Fm) (ρ : Lo) (σ : Hp) (fr : Nat → Option Obj) (z s : Shared) : Prop where
  same : s.gens = z.gens ∧ s.drawn = z.drawn ∧ s.os = z.os
  keep : ∀ a o, fr a = some o → ∃ sl, s.heap.get? a = some { o with slots := sl } ∧ (a ∉ f.slotted → sl = o.slots)
  objs : ∀ a t mo, σ a = some (t, mo) → ObjAt prog w s.heap a mo
  wf : ∀ a t C fs, σ (a + 1) = some (t, .inst C fs) → σ a = none
  apart : ∀ a, Foot σ a → fr a = none ∧ a ≠ f.L ∧ ∀ x c, (x, c) ∈ f.cells → a ≠ c
  ns : ∃ m, s.heap.Ns f.L m ∧ ∀ x, f.scope.names.lookup x = some .local → OptIs (ρ x) (m x)
  cel : ∀ x c, (x, c) ∈ f.cells → ∃ o v, s.heap.get? c = some o ∧ o.data = .cell v ∧ OptIs (ρ x) v
  frame : fr f.L = none ∧ ∀ x c, (x, c) ∈ f.cells → fr c = none ∧ c ≠ f.L
  kl : ∀ a t xs o, σ a = some (t, .klist xs o) → f.base.get? a = some o
def MO.isInst : MO → Bool
  | .inst .. => true
  | _ => false
section
variable {prog : Program} {w : World} {h h' : Heap} {a : Nat} {mo : MO}
theorem ObjAt.there (x : ObjAt prog w h a mo) : ∃ o, h.get? a = some o := by
  cases mo with
  | list xs => obtain ⟨its, n, e, _⟩ := x; exact ⟨_, e⟩
  | tuple xs => obtain ⟨its, n, e, _⟩ := x; exact ⟨_, e⟩
  | sdict es => obtain ⟨_, o, e, _⟩ := x; exact ⟨_, e⟩
  | idict es ep => obtain ⟨_, o, e, _⟩ := x; exact ⟨_, e⟩
  | inst C fs => obtain ⟨d, es, n, _, e, _⟩ := x; exact ⟨_, e⟩
  | exc C => obtain ⟨o, e, _⟩ := x; exact ⟨_, e⟩
  | range lo hi => obtain ⟨t, u, v, e⟩ := x; exact ⟨_, e⟩
  | klist xs o => exact ⟨_, x.1⟩
theorem ObjAt.dict_there {C : Nat} {fs : List (Str × MV)} (x : ObjAt prog w h (a + 1) (.inst C fs)) : ∃ o, h.get? a = some o := by
  obtain ⟨d, es, n, e1, _, e2, _⟩ := x
  obtain rfl : a = d := Nat.succ.inj e1
  exact ⟨_, e2⟩
theorem ObjAt.of_same (x : ObjAt prog w h a mo) (k : ∀ o, h.get? a = some o → h'.get? a = some o) (k' : ∀ d o, mo.isInst = true → a = d + 1 → h.get? d = some o → h'.get? d = some o) : ObjAt prog w h' a mo := by
  cases mo with
  | list xs => obtain ⟨its, n, e, r⟩ := x; exact ⟨its, n, k _ e, r⟩
  | tuple xs => obtain ⟨its, n, e, r⟩ := x; exact ⟨its, n, k _ e, r⟩
  | sdict es => obtain ⟨l, o, e, r⟩ := x; exact ⟨l, o, k _ e, r⟩
  | idict es ep => obtain ⟨l, o, e, r⟩ := x; exact ⟨l, o, k _ e, r⟩
  | inst C fs => obtain ⟨d, es, n, e0, e, e', r⟩ := x; exact ⟨d, es, n, e0, k _ e, k' d _ rfl e0 e', r⟩
  | exc C => obtain ⟨o, e, r⟩ := x; exact ⟨o, k _ e, r⟩
  | range lo hi => obtain ⟨t, u, v, e⟩ := x; exact ⟨t, u, v, k _ e⟩
  | klist xs o => exact ⟨k _ x.1, x.2⟩
theorem ObjAt.keeps (x : ObjAt prog w h a mo) (k : ∀ b o, h.get? b = some o → h'.get? b = some o) : ObjAt prog w h' a mo :=
  x.of_same (fun o e => k a o e) fun d o _ _ e => k d o e
end
theorem Hp.put_self (σ : Hp) (a : Nat) (t : Nat) (o : MO) : (σ.put a t o) a = some (t, o) := by simp [Hp.put]
theorem Hp.put_ne (σ : Hp) {a b : Nat} (t : Nat) (o : MO) (h : b ≠ a) : (σ.put a t o) b = σ b := by simp [Hp.put, h]
def Kept (L : Nat) (D : Nat → Prop) (h h' : Heap) : Prop := (∀ a o, ¬ D a → a ≠ L → h.get? a = some o → h'.get? a = some o) ∧ ∀ m, h.Ns L m → h'.Ns L m
theorem Kept.of_grown {L : Nat} {h h' : Heap} (k : ∀ b o, h.get? b = some o → h'.get? b = some o) {D : Nat → Prop} : Kept L D h h' :=
  ⟨fun a o _ _ e => k a o e, fun m ⟨o, es, ep, e, r⟩ => ⟨o, es, ep, k _ _ e, r⟩⟩
theorem Kept.of_same {L d : Nat} {h h' : Heap} (hs : Heap.SameBut d h h') (hd : d ≠ L) : Kept L (· = d) h h' :=
  ⟨fun a o n _ e => (hs.2 a n).trans e, fun m hn => hn.sameBut hs (Ne.symm hd)⟩
section
variable {prog : Program} {w : World} {f : Fm} {ρ : Lo} {σ : Hp} {fr : Nat → Option Obj} {z s : Shared}
theorem Rel.some_lt (R : Rel prog w f ρ σ fr z s) {a : Nat} {p : Nat × MO} (e : σ a = some p) : a < s.heap.objs.size := by
  obtain ⟨t, mo⟩ := p; obtain ⟨o, ho⟩ := (R.objs a t mo e).there; exact Heap.lt_size ho
theorem Rel.foot_lt (R : Rel prog w f ρ σ fr z s) {a : Nat} (x : Foot σ a) : a < s.heap.objs.size := by
  rcases x with ⟨t, mo, e, _⟩ | ⟨t, C, fs, x⟩
  · exact R.some_lt e
  · obtain ⟨o, ho⟩ := (R.objs _ t _ x).dict_there; exact Heap.lt_size ho
theorem Rel.fr_lt (R : Rel prog w f ρ σ fr z s) {a : Nat} {o : Obj} (x : fr a = some o) : a < s.heap.objs.size := let ⟨_, e, _⟩ := R.keep a o x; Heap.lt_size e
theorem Rel.L_lt (R : Rel prog w f ρ σ fr z s) : f.L < s.heap.objs.size := by obtain ⟨m, h, _⟩ := R.ns; exact h.lt
theorem Rel.cel_lt (R : Rel prog w f ρ σ fr z s) {x : Str} {c : Nat} (h : (x, c) ∈ f.cells) : c < s.heap.objs.size := by obtain ⟨o, v, e, _⟩ := R.cel x c h; exact Heap.lt_size e
theorem Foot.of_some {σ : Hp} {a t : Nat} {mo : MO} (e : σ a = some (t, mo)) (h : mo.isK = false) : Foot σ a := .inl ⟨t, mo, e, h⟩
theorem Rel.neL (R : Rel prog w f ρ σ fr z s) {a t : Nat} {mo : MO} (e : σ a = some (t, mo)) : a ≠ f.L := by
  cases h : mo.isK with
  | false => exact (R.apart a (.of_some e h)).2.1
  | true =>
    cases mo <;> first | cases h | skip
    intro q
    obtain ⟨h1, _, its, n, h2, _⟩ := R.objs a t _ e
    obtain ⟨m, ⟨o, es, ep, h3, h4, _⟩, _⟩ := R.ns
    rw [q, h3] at h1
    cases h1
    rw [h2] at h4; cases h4
theorem Rel.neC (R : Rel prog w f ρ σ fr z s) {a t : Nat} {mo : MO} (e : σ a = some (t, mo)) {x : Str} {c : Nat} (hc : (x, c) ∈ f.cells) : a ≠ c := by
  cases h : mo.isK with
  | false => exact (R.apart a (.of_some e h)).2.2 x c hc
  | true =>
    cases mo <;> first | cases h | skip
    intro q
    obtain ⟨h1, _, its, n, h2, _⟩ := R.objs a t _ e
    obtain ⟨o, v, h3, h4, _⟩ := R.cel x c hc
    rw [q, h3] at h1
    cases h1
    rw [h2] at h4; cases h4
theorem Rel.kept (R : Rel prog w f ρ σ fr z s) {h' : Heap} {tk : Nat} (k : Kept f.L (fun _ => False) s.heap h') : Rel prog w f ρ σ fr z { s with heap := h', toks := tk } where
  same := R.same
  keep := fun a o e => let ⟨sl, e1, e2⟩ := R.keep a o e; ⟨sl, k.1 a _ id (fun q => by have := R.frame.1; rw [← q, e] at this; cases this) e1, e2⟩
  objs := fun a t mo e => (R.objs a t mo e).of_same (fun o e' => k.1 a o id (R.neL e) e') fun d o hi ed e' => k.1 d o id (by
    subst ed
    cases mo <;> first | cases hi | skip
    exact (R.apart d (.inr ⟨_, _, _, e⟩)).2.1) e'
  wf := R.wf
  apart := R.apart
  ns := by obtain ⟨m, hn, q⟩ := R.ns; exact ⟨m, k.2 m hn, q⟩
  cel := fun x c hc => by obtain ⟨o, v, e, r⟩ := R.cel x c hc; exact ⟨o, v, k.1 c _ id (R.frame.2 x c hc).2 e, r⟩
  frame := R.frame
  kl := R.kl
theorem Rel.grown (R : Rel prog w f ρ σ fr z s) {h' : Heap} {tk : Nat} (k : ∀ b o, s.heap.get? b = some o → h'.get? b = some o) : Rel prog w f ρ σ fr z { s with heap := h', toks := tk } := R.kept (.of_grown k)
theorem Rel.toks (R : Rel prog w f ρ σ fr z s) (tk : Nat) : Rel prog w f ρ σ fr z { s with toks := tk } := R.grown (h' := s.heap) fun _ _ e => e
theorem Rel.alloc (R : Rel prog w f ρ σ fr z s) {h' : Heap} {tk : Nat} {b : Nat} {mo : MO} (t : Nat) (k : Kept f.L (fun _ => False) s.heap h') (hb : s.heap.objs.size ≤ b)
    (hi : mo.isInst = true → s.heap.objs.size < b) (x : ObjAt prog w h' b mo) (hk : mo.isK = false := by rfl) : Rel prog w f ρ (σ.put b t mo) fr z { s with heap := h', toks := tk } where
  same := R.same
  keep := (R.kept (tk := tk) k).keep
  objs := fun a t' mo' e => by
    by_cases q : a = b
    · subst q; rw [Hp.put_self] at e; cases e; exact x
    · rw [Hp.put_ne _ _ _ q] at e; exact (R.kept (tk := tk) k).objs a t' mo' e
  wf := fun a t' C fs e => by
    by_cases q : a + 1 = b
    · rw [q, Hp.put_self] at e
      obtain ⟨rfl, rfl⟩ : t' = t ∧ mo = .inst C fs := by cases e; exact ⟨rfl, rfl⟩
      have h5 := hi rfl
      rw [← q] at h5
      rw [Hp.put_ne _ _ _ (fun q2 => Nat.succ_ne_self a (q.trans q2.symm))]
      cases e' : σ a with
      | none => rfl
      | some p => exact absurd (R.some_lt e') (Nat.not_lt.mpr (Nat.le_of_lt_succ h5))
    · rw [Hp.put_ne _ _ _ q] at e
      have : a < s.heap.objs.size := R.foot_lt (.inr ⟨t', C, fs, e⟩)
      rw [Hp.put_ne _ _ _ (Nat.ne_of_lt (Nat.lt_of_lt_of_le this hb))]
      exact R.wf a t' C fs e
  apart := fun a fa => by
    have new : s.heap.objs.size ≤ a → fr a = none ∧ a ≠ f.L ∧ ∀ x c, (x, c) ∈ f.cells → a ≠ c := fun ha => by
      refine ⟨?_, ?_, fun y c hc => ?_⟩
      · cases e : fr a with
        | none => rfl
        | some o => exact absurd (R.fr_lt e) (Nat.not_lt.mpr ha)
      · exact (Nat.ne_of_lt (Nat.lt_of_lt_of_le R.L_lt ha)).symm
      · exact (Nat.ne_of_lt (Nat.lt_of_lt_of_le (R.cel_lt hc) ha)).symm
    by_cases q : a = b
    · exact new (q ▸ hb)
    · by_cases q' : a + 1 = b
      · by_cases ho : Foot σ a
        · exact R.apart a ho
        · refine new ?_
          rcases fa with ⟨t', mo', fa, fk⟩ | ⟨t', C, fs, e⟩
          · rw [Hp.put_ne _ _ _ q] at fa; exact absurd (.of_some fa fk) ho
          · rw [q', Hp.put_self] at e
            obtain ⟨rfl, rfl⟩ : t' = t ∧ mo = .inst C fs := by cases e; exact ⟨rfl, rfl⟩
            have h5 := hi rfl
            rw [← q'] at h5
            exact Nat.le_of_lt_succ h5
      · refine R.apart a ?_
        rcases fa with ⟨t', mo', fa, fk⟩ | ⟨t', C, fs, e⟩
        · rw [Hp.put_ne _ _ _ q] at fa; exact .of_some fa fk
        · rw [Hp.put_ne _ _ _ q'] at e; exact .inr ⟨t', C, fs, e⟩
  ns := (R.kept (tk := tk) k).ns
  cel := (R.kept (tk := tk) k).cel
  frame := R.frame
  kl := fun a t' xs o e => by
    by_cases q : a = b
    · subst q; rw [Hp.put_self] at e; cases e; cases hk
    · rw [Hp.put_ne _ _ _ q] at e; exact R.kl a t' xs o e
theorem Rel.upd (R : Rel prog w f ρ σ fr z s) {h' : Heap} {tk : Nat} {d : Nat} {t t' : Nat} {mo mo' : MO} (hd : σ d = some (t, mo)) (hk : mo.isK = false) (hi' : mo'.isInst = false) (hs : Kept f.L (· = d) s.heap h')
    (x : ObjAt prog w h' d mo') (hk' : mo'.isK = false := by rfl) : Rel prog w f ρ (σ.put d t' mo') fr z { s with heap := h', toks := tk } where
  same := R.same
  keep := fun a o e => let ⟨sl, e1, e2⟩ := R.keep a o e; ⟨sl, hs.1 a _ (fun q => by have := (R.apart d (.of_some hd hk)).1; rw [← q, e] at this; cases this) (fun q => by have := R.frame.1; rw [← q, e] at this; cases this) e1, e2⟩
  objs := fun a t₁ mo₁ e => by
    by_cases q : a = d
    · subst q; rw [Hp.put_self] at e; cases e; exact x
    · rw [Hp.put_ne _ _ _ q] at e
      refine (R.objs a t₁ mo₁ e).of_same (fun o e' => hs.1 a _ q (R.neL e) e') fun b o hb e1 e2 => ?_
      subst e1
      cases mo₁ <;> first | cases hb | skip
      refine hs.1 b _ (fun q2 => ?_) (R.apart b (.inr ⟨_, _, _, e⟩)).2.1 e2
      subst q2
      have := R.wf _ _ _ _ e; rw [hd] at this; cases this
  wf := fun a t₁ C fs e => by
    by_cases q : a + 1 = d
    · rw [q, Hp.put_self] at e; cases e; cases hi'
    · rw [Hp.put_ne _ _ _ q] at e
      by_cases q' : a = d
      · subst q'; have := R.wf _ _ _ _ e; rw [hd] at this; cases this
      · rw [Hp.put_ne _ _ _ q']; exact R.wf a t₁ C fs e
  apart := fun a fa => by
    refine R.apart a ?_
    rcases fa with ⟨t₁, mo₁, fa, fk⟩ | ⟨t₁, C, fs, e⟩
    · by_cases q : a = d
      · subst q; exact .of_some hd hk
      · rw [Hp.put_ne _ _ _ q] at fa; exact .of_some fa fk
    · by_cases q : a + 1 = d
      · rw [q, Hp.put_self] at e; cases e; cases hi'
      · rw [Hp.put_ne _ _ _ q] at e; exact .inr ⟨_, _, _, e⟩
  ns := by obtain ⟨m, hn, q⟩ := R.ns; exact ⟨m, hs.2 m hn, q⟩
  cel := fun x c hc => by obtain ⟨o, v, e, r⟩ := R.cel x c hc; exact ⟨o, v, hs.1 c _ (fun q => (R.apart d (.of_some hd hk)).2.2 x c hc q.symm) (R.frame.2 x c hc).2 e, r⟩
  frame := R.frame
  kl := fun a t₁ xs o e => by
    by_cases q : a = d
    · subst q; rw [Hp.put_self] at e; cases e; cases hk'
    · rw [Hp.put_ne _ _ _ q] at e; exact R.kl a t₁ xs o e
theorem Rel.updI (R : Rel prog w f ρ σ fr z s) {h' : Heap} {tk : Nat} {d C : Nat} {t t' : Nat} {fs fs' : List (Str × MV)} (hd : σ (d + 1) = some (t, .inst C fs)) (hs : Kept f.L (· = d) s.heap h')
    (x : ObjAt prog w h' (d + 1) (.inst C fs')) : Rel prog w f ρ (σ.put (d + 1) t' (.inst C fs')) fr z { s with heap := h', toks := tk } where
  same := R.same
  keep := fun a o e => let ⟨sl, e1, e2⟩ := R.keep a o e; ⟨sl, hs.1 a _ (fun q => by have := (R.apart d (.inr ⟨_, _, _, hd⟩)).1; rw [← q, e] at this; cases this) (fun q => by have := R.frame.1; rw [← q, e] at this; cases this) e1, e2⟩
  objs := fun a t₁ mo₁ e => by
    by_cases q : a = d + 1
    · subst q; rw [Hp.put_self] at e; cases e; exact x
    · rw [Hp.put_ne _ _ _ q] at e
      have hn := R.wf _ _ _ _ hd
      refine (R.objs a t₁ mo₁ e).of_same (fun o e' => hs.1 a _ (fun q2 => by subst q2; rw [hn] at e; cases e) (R.neL e) e') fun b o hb e1 e2 => ?_
      subst e1
      cases mo₁ <;> first | cases hb | skip
      exact hs.1 b _ (fun q2 => q (congrArg (· + 1) q2)) (R.apart b (.inr ⟨_, _, _, e⟩)).2.1 e2
  wf := fun a t₁ C' fs₁ e => by
    by_cases q : a = d + 1
    · subst q
      rw [Hp.put_ne _ _ _ (Nat.succ_ne_self _)] at e
      have := R.wf _ _ _ _ e; rw [hd] at this; cases this
    · rw [Hp.put_ne _ _ _ q]
      by_cases q' : a = d
      · subst q'; exact R.wf _ _ _ _ hd
      · rw [Hp.put_ne _ _ _ (fun q2 => q' (Nat.succ.inj q2))] at e; exact R.wf _ _ _ _ e
  apart := fun a fa => by
    refine R.apart a ?_
    rcases fa with ⟨t₁, mo₁, fa, fk⟩ | ⟨t₁, C, fs, e⟩
    · by_cases q : a = d + 1
      · subst q; exact .of_some hd rfl
      · rw [Hp.put_ne _ _ _ q] at fa; exact .of_some fa fk
    · by_cases q : a = d
      · subst q; exact .inr ⟨_, _, _, hd⟩
      · rw [Hp.put_ne _ _ _ (fun q2 => q (Nat.succ.inj q2))] at e; exact .inr ⟨_, _, _, e⟩
  ns := by obtain ⟨m, hn, q⟩ := R.ns; exact ⟨m, hs.2 m hn, q⟩
  cel := fun x c hc => by obtain ⟨o, v, e, r⟩ := R.cel x c hc; exact ⟨o, v, hs.1 c _ (fun q => (R.apart d (.inr ⟨_, _, _, hd⟩)).2.2 x c hc q.symm) (R.frame.2 x c hc).2 e, r⟩
  frame := R.frame
  kl := fun a t₁ xs o e => by
    by_cases q : a = d + 1
    · subst q; rw [Hp.put_self] at e; cases e
    · rw [Hp.put_ne _ _ _ q] at e; exact R.kl a t₁ xs o e
end
end Mine
open PySem PySem.W PyProof.Rows
namespace Mine
set_option genInjectivity false in
structure Cx where
  prog : Program
  w : World
  K : Frag
  p : Program
  loose : List Str
  mean : ExcName → Option Value
  mg : Str → Option Value
  mb : Str → Option Value
  glob : Str → Option MV
  meth : Nat → Str → Option Nat
  fld : Nat → Str → Bool
  init : Nat → Option Nat
  fns : Nat → Bool
def GlobAt (c : Cx) (x : Str) (v : MV) : Prop :=
  (x == ("__debug__" : Str)) = false ∧ ((∃ u, nsIn c.K mainGlobals x = some (some u) ∧ v.Is u) ∨ (nsIn c.K mainGlobals x = some none ∧ x ≠ "__name__" ∧ ∃ u, bootBuiltins x = some u ∧ v.Is u))
structure CxOk (c : Cx) : Prop where
  glob : ∀ x v, c.glob x = some v → GlobAt c x v
  meth : ∀ C x a, c.meth C x = some a → plainGet c.K C x = true ∧ findIn c.K (.ref C) x = some (some (.ref a)) ∧ isFn c.K (.ref a) = true ∧ keepIn c.K (.ref a) = true
  fld : ∀ C x, c.fld C x = true → plainGet c.K C x = true ∧ hasDictIn c.K C = true ∧ findIn c.K (.ref C) x = some none ∧ findIn c.K (.ref C) "__setattr__" = some (some (.builtin "object.__setattr__")) ∧ plainOver c.K C = true ∧ takerIn c.K C x = some none
  init : ∀ C a, c.init C = some a → makesIn c.K C = true ∧ findIn c.K (.ref C) "__init__" = some (some (.ref a)) ∧ isFn c.K (.ref a) = true ∧ keepIn c.K (.ref C) = true
  fns : ∀ a, c.fns a = true → keepIn c.K (.ref a) = true
structure Good (c : Cx) (n : Nat) (f : Fm) (fr : Nat → Option Obj) : Prop where
  ok : CxOk c
  base : ∀ a o, f.base.get? a = some o → fr a = some o
  apart : ∀ a ∈ f.slotted, f.base.get? a = none
  K : c.K.In f.base
  top : Top c.p c.loose c.mean c.mg c.mb f.base
  kind : f.env.scope.kind = .function
  globals : f.env.globals = mainGlobals
  celled : ∀ x, f.env.scope.names.lookup x = some .cell → (f.env.cells.lookup x).isSome = true
  cellk : ∀ x k, (x, k) ∈ f.env.cells → f.env.scope.names.lookup x ≠ some .local
  cellnd : (f.env.cells.map (·.2)).Nodup ∧ (f.env.cells.map (·.1)).Nodup ∧ ∀ x k, (x, k) ∈ f.env.cells → k ≠ f.env.locals
  builtins : f.env.builtins = builtinsNs
  room : f.A.depth + 2 * n < recursionLimit
  units : f.A.units + 40 * n < cLine
  frames : f.A.frames = some (f.top :: f.outer)
  topk : f.top.scope.kind = .function ∧ f.top.globals = mainGlobals ∧ f.top.builtins = builtinsNs ∧ f.top.scope.isGenerator = false ∧ f.top.scope.isCoroutine = false
  low : sysModules < f.base.objs.size
  slots : ∀ a ∈ frameAddrs (f.top :: f.outer), a = f.env.locals ∨ a ∈ f.slotted
  topL : ∃ L, f.top.frame = some L ∧ (L = f.env.locals ∨ (L ∈ f.slotted ∧ ∃ o, fr L = some o ∧ ∀ vs, o.data ≠ .fields vs)) ∧ f.base.get? L = none
  slotIn : ∀ a ∈ f.slotted, ∃ o, fr a = some o
  home : f.env.frame = f.top.frame
  outer : ∀ env ∈ f.outer, env.scope.kind ≠ .module ∧ ∃ L o, env.frame = some L ∧ L ∈ f.slotted ∧ fr L = some o ∧ ∀ vs, o.data ≠ .fields vs
abbrev Cx.M (c : Cx) : Model := model c.prog c.w
abbrev Cx.Rel (c : Cx) := Mine.Rel c.prog c.w
theorem Good.keep {c : Cx} {n : Nat} {f : Fm} {fr : Nat → Option Obj} (G : Good c n f fr) {ρ : Lo} {σ : Hp} {z s : Shared} (R : c.Rel f ρ σ fr z s) : ∀ a o, f.base.get? a = some o → s.heap.get? a = some o := fun a o e => by
  obtain ⟨sl, h1, h2⟩ := R.keep a o (G.base a o e)
  have h3 := h2 fun hm => by rw [G.apart a hm] at e; cases e
  rw [h1, h3]
theorem Good.inK {c : Cx} {n : Nat} {f : Fm} {fr : Nat → Option Obj} (G : Good c n f fr) {ρ : Lo} {σ : Hp} {z s : Shared} (R : c.Rel f ρ σ fr z s) : c.K.In s.heap := G.K.keeps (G.keep R)
theorem Good.at {c : Cx} {n : Nat} {f : Fm} {fr : Nat → Option Obj} (G : Good c n f fr) {ρ : Lo} {σ : Hp} {z s : Shared} (R : c.Rel f ρ σ fr z s) : Top c.p c.loose c.mean c.mg c.mb s.heap := G.top.keeps (G.keep R)
def XRel (c : Cx) (new : Bool) (f : Fm) (ρ : Lo) (σ : Hp) (fr : Nat → Option Obj) (z s : Shared) (C e : Nat) : Prop :=
  match new with
  | true => ∃ h vs, c.Rel f ρ σ fr z { s with heap := h } ∧ Heap.MadeExcOf h s.heap e (.ref C) vs
  | false => ∃ h t vs, c.Rel f ρ σ fr z { s with heap := h } ∧ Heap.FlyingW (hideAll h (frameAddrs (f.top :: f.outer))) (f.top :: f.outer) e (.ref C) (.ref t) s.heap ∧
      (hideAll h (frameAddrs (f.top :: f.outer))).get? t = none ∧ s.heap.TupAt t vs ∧ h.UpToSlots s.heap
abbrev EX := Bool → Nat → Nat → Hp → Prop
abbrev SX := Bool → Nat → Nat → Lo → Hp → Prop
def noX : EX := fun _ _ _ _ => False
def noSX : SX := fun _ _ _ _ _ => False
def XPost (c : Cx) (f : Fm) (fr : Nat → Option Obj) (z : Shared) (X : SX) : Value → Shared → Prop :=
  fun ev s' => ∃ b C e ρ' σ', ev = .ref e ∧ XRel c b f ρ' σ' fr z s' C e ∧ X b C e ρ' σ'
def EX.at (X : EX) (ρ : Lo) : SX := fun b C e ρ' σ' => ρ' = ρ ∧ X b C e σ'
set_option genInjectivity false in
structure Ix where
  n : Nat
  hn : Bool
  sc : Scope
def W {α μ : Type} (c : Cx) (i : Ix) (V : μ → α → Prop) (t : Env → Sem α) (ρ : Lo) (Q : μ → Hp → Prop) (X : EX) (σ : Hp) : Prop :=
  ∀ f fr z s, f.env.scope = i.sc → (i.hn = true → f.A.handled = none) → Good c i.n f fr → c.Rel f ρ σ fr z s →
    wpAny c.M f.A (t f.env) (fun a s' => ∃ m σ', V m a ∧ c.Rel f ρ σ' fr z s' ∧ Q m σ') (XPost c f fr z (X.at ρ)) s
inductive MF where
  | next | brk | cont | ret (v : MV)
def MF.Is : MF → Flow → Prop
  | .next, f => f = .next
  | .brk, f => f = .brk
  | .cont, f => f = .cont
  | .ret v, f => ∃ u, f = .ret u ∧ v.Is u
def S (c : Cx) (i : Ix) (t : Env → Sem Flow) (ρ : Lo) (Q : MF → Lo → Hp → Prop) (X : SX) (σ : Hp) : Prop :=
  ∀ f fr z s, f.env.scope = i.sc → (i.hn = true → f.A.handled = none) → Good c i.n f fr → c.Rel f ρ σ fr z s →
    wpAny c.M f.A (t f.env) (fun fl s' => ∃ m ρ' σ', MF.Is m fl ∧ c.Rel f ρ' σ' fr z s' ∧ Q m ρ' σ') (XPost c f fr z X) s
def WE (c : Cx) (i : Ix) (e : Expr) := W c i MV.Is (eval e)
def WT (c : Cx) (i : Ix) (e : Expr) (ρ : Lo) (Q : Bool → Hp → Prop) := W c i (· = ·) (fun env => isTrue e env (eval e env)) ρ Q
def WS (c : Cx) (i : Ix) (st : Stmt) := S c i (exec st)
def WSs (c : Cx) (i : Ix) (b : List Stmt) := S c i (execs b)
def WTr (c : Cx) (i : Ix) (m : MV) (ρ : Lo) (Q : Bool → Hp → Prop) (X : EX) (σ : Hp) := ∀ v, m.Is v → W c i (· = ·) (fun _ => truthy v) ρ Q X σ
def WB (c : Cx) (i : Ix) (op : Operator) (a b : MV) (ρ : Lo) (Q : MV → Hp → Prop) (X : EX) (σ : Hp) := ∀ v u, a.Is v → b.Is u → W c i MV.Is (fun _ => binaryOp op v u) ρ Q X σ
def WI (c : Cx) (i : Ix) (op : Operator) (a b : MV) (ρ : Lo) (Q : MV → Hp → Prop) (X : EX) (σ : Hp) := ∀ v u, a.Is v → b.Is u → W c i MV.Is (fun _ => inplaceOp op v u) ρ Q X σ
def WC (c : Cx) (i : Ix) (op : CmpOp) (a b : MV) (ρ : Lo) (Q : MV → Hp → Prop) (X : EX) (σ : Hp) := ∀ v u, a.Is v → b.Is u → W c i MV.Is (fun _ => compareOp op v u) ρ Q X σ
def WU (c : Cx) (i : Ix) (op : UnaryOp) (a : MV) (ρ : Lo) (Q : MV → Hp → Prop) (X : EX) (σ : Hp) := ∀ v, a.Is v → W c i MV.Is (fun _ => unaryOp op v) ρ Q X σ
def WGet (c : Cx) (i : Ix) (a : MV) (name : Str) (ρ : Lo) (Q : MV → Hp → Prop) (X : EX) (σ : Hp) := ∀ v, a.Is v → W c i MV.Is (fun _ => getAttr v name true) ρ Q X σ
def WSet (c : Cx) (i : Ix) (a : MV) (name : Str) (b : MV) (ρ : Lo) (Q : Unit → Hp → Prop) (X : EX) (σ : Hp) := ∀ v u, a.Is v → b.Is u → W c i (· = ·) (fun _ => setAttr v name u) ρ Q X σ
def WSub (c : Cx) (i : Ix) (value slice : Expr) (a b : MV) (ρ : Lo) (Q : MV → Hp → Prop) (X : EX) (σ : Hp) := ∀ v u, a.Is v → b.Is u → W c i MV.Is (fun _ => subscriptTail value slice v u) ρ Q X σ
def WPut (c : Cx) (i : Ix) (a k b : MV) (ρ : Lo) (Q : Unit → Hp → Prop) (X : EX) (σ : Hp) := ∀ v y u, a.Is v → k.Is y → b.Is u → W c i (· = ·) (fun _ => setItem v y u) ρ Q X σ
def WCall (c : Cx) (i : Ix) (fn : MV) (as : List MV) (ρ : Lo) (Q : MV → Hp → Prop) (X : EX) (σ : Hp) := ∀ v us, fn.Is v → All2 MV.Is as us → W c i MV.Is (fun _ => call v us) ρ Q X σ
def WEs (c : Cx) (i : Ix) (pos : Pos) (es : List Expr) := W c i (All2 MV.Is) (fun env => spliced (backTo pos (starEach es env)))
theorem wuse {α μ τ : Type} {M : Model} {A : Around} {t : Sem α} {V : μ → α → Prop} {Rl : τ → Shared → Prop} {Q : μ → τ → Prop} {E E' : Value → Shared → Prop} {Q' : α → Shared → Prop} {s : Shared}
    (h : wpAny M A t (fun a s' => ∃ m σ', V m a ∧ Rl σ' s' ∧ Q m σ') E s) (k : ∀ a s' m σ', V m a → Rl σ' s' → Q m σ' → Q' a s') (e : ∀ v s', E v s' → E' v s') : wpAny M A t Q' E' s :=
  wpAny_mono h (fun a s' x => x.elim fun m x => x.elim fun σ' x => k a s' m σ' x.1 x.2.1 x.2.2) e
theorem wuse4 {α τ υ : Type} {M : Model} {A : Around} {t : Sem α} {Rl : τ → υ → Shared → Prop} {Q : τ → υ → Prop} {E E' : Value → Shared → Prop} {Q' : α → Shared → Prop} {s : Shared}
    (h : wpAny M A t (fun _ s' => ∃ ρ' σ', Rl ρ' σ' s' ∧ Q ρ' σ') E s) (k : ∀ a s' ρ' σ', Rl ρ' σ' s' → Q ρ' σ' → Q' a s') (e : ∀ v s', E v s' → E' v s') : wpAny M A t Q' E' s :=
  wpAny_mono h (fun a s' x => x.elim fun m x => x.elim fun σ' x => k a s' m σ' x.1 x.2) e
theorem wuse6 {α μ τ υ : Type} {M : Model} {A : Around} {t : Sem α} {V : μ → α → Prop} {Rl : τ → υ → Shared → Prop} {Q : μ → τ → υ → Prop} {E E' : Value → Shared → Prop} {Q' : α → Shared → Prop} {s : Shared}
    (h : wpAny M A t (fun a s' => ∃ m ρ' σ', V m a ∧ Rl ρ' σ' s' ∧ Q m ρ' σ') E s) (k : ∀ a s' m ρ' σ', V m a → Rl ρ' σ' s' → Q m ρ' σ' → Q' a s') (e : ∀ v s', E v s' → E' v s') : wpAny M A t Q' E' s :=
  wpAny_mono h (fun a s' x => x.elim fun m x => x.elim fun ρ' x => x.elim fun σ' x => k a s' m ρ' σ' x.1 x.2.1 x.2.2) e
section
variable {α μ : Type} {c : Cx} {i : Ix} {V : μ → α → Prop} {t : Env → Sem α} {ρ : Lo} {Q Q' : μ → Hp → Prop} {X : EX} {σ : Hp}
theorem W.mono (h : W c i V t ρ Q X σ) (k : ∀ m σ', Q m σ' → Q' m σ') : W c i V t ρ Q' X σ := fun f fr z s a b g R =>
  wuse (h f fr z s a b g R) (fun _ _ m σ' v r q => ⟨m, σ', v, r, k m σ' q⟩) fun _ _ x => x
end
abbrev AttrPlain (e : Expr) (name : Str) : Prop := ∀ env t, attributeBase e name env t = t
abbrev TruthPlain (e : Expr) : Prop := ∀ env t, isTrue e env t = (do let v ← t; standAt e.pos; holding [v] (truthy v))
def noStar : Expr → Bool
  | .Starred .. => false
  | _ => true
theorem starEach_cons {e : Expr} {rest : List Expr} {env : Env} (h : noStar e = true) : starEach (e :: rest) env = (false, eval e env) :: starEach rest env := by
  cases e <;> first | rfl | cases h
theorem back_any {pos : Pos} {env : Env} : ∀ {es : List Expr}, es.all noStar = true → (backTo pos (starEach es env)).any (·.1) = false
  | [], _ => rfl
  | e :: r, h => by
    simp only [List.all_cons, Bool.and_eq_true] at h
    rw [starEach_cons h.1]
    show (false || _) = false
    rw [Bool.false_or]
    exact back_any h.2
section
variable {c : Cx} {i : Ix} {ρ : Lo} {σ : Hp}
theorem S.mono {t : Env → Sem Flow} {Q Q' : MF → Lo → Hp → Prop} {X : SX} (h : S c i t ρ Q X σ) (k : ∀ m ρ' σ', Q m ρ' σ' → Q' m ρ' σ') : S c i t ρ Q' X σ := fun f fr z s a b g R =>
  wuse6 (h f fr z s a b g R) (fun _ _ m ρ' σ' v r q => ⟨m, ρ', σ', v, r, k m ρ' σ' q⟩) fun _ _ x => x
variable {Q : MV → Hp → Prop} {X : EX}
theorem WE.none {k pos} (h : Q .none σ) : WE c i (.Constant .none k pos) ρ Q X σ := fun _ _ _ _ _ _ _ R => Constant_none ⟨.none, σ, rfl, R, h⟩
theorem WE.bool {b k pos} (h : Q (.bool b) σ) : WE c i (.Constant (.bool b) k pos) ρ Q X σ := fun _ _ _ _ _ _ _ R => Constant_bool ⟨.bool b, σ, rfl, R, h⟩
theorem WE.int {n k pos} (h : Q (.int n) σ) : WE c i (.Constant (.int n) k pos) ρ Q X σ := fun _ _ _ _ _ _ _ R => wpAny_Constant_int ⟨.int n, σ, ⟨_, rfl⟩, R.toks _, h⟩
theorem WE.str {x k pos} (h : Q (.str x) σ) : WE c i (.Constant (.str x) k pos) ρ Q X σ := fun _ _ _ _ _ _ _ R => Calls.Constant_str ⟨.str x, σ, ⟨_, rfl⟩, R.toks _, h⟩
theorem WE.binop {l op r pos} (h : WE c i l ρ (fun a σ₁ => WE c i r ρ (fun b σ₂ => WB c i op a b ρ Q X σ₂) X σ₁) X σ) : WE c i (.BinOp l op r pos) ρ Q X σ := fun f fr z s a b g R =>
  wpAny_BinOp (wuse (h f fr z s a b g R) (fun _ s₁ _ _ v₁ R₁ h₁ => wuse (h₁ f fr z s₁ a b g R₁) (fun _ s₂ _ _ v₂ R₂ h₂ => h₂ _ _ v₁ v₂ f fr z s₂ a b g R₂) fun _ _ x => x) fun _ _ x => x)
theorem WE.unary {op e pos} (h : WE c i e ρ (fun a σ₁ => WU c i op a ρ Q X σ₁) X σ) : WE c i (.UnaryOp op e pos) ρ Q X σ := fun f fr z s a b g R =>
  UnaryOp_ (wuse (h f fr z s a b g R) (fun _ s₁ _ _ v₁ R₁ h₁ => h₁ _ v₁ f fr z s₁ a b g R₁) fun _ _ x => x)
theorem WE.attr {e name pos} (hp : AttrPlain e name) (h : WE c i e ρ (fun a σ₁ => WGet c i a name ρ Q X σ₁) X σ) : WE c i (.Attribute e name pos) ρ Q X σ := fun f fr z s a b g R => by
  refine Attribute_any_ (wuse (h f fr z s a b g R) (fun _ s₁ _ _ v₁ R₁ h₁ => h₁ _ v₁ f fr z s₁ a b g R₁) fun _ _ x => x) ?_
  rw [← hp f.env (eval e f.env)]
  with_unfolding_all rfl
theorem WE.sub {v sl pos} (h : WE c i v ρ (fun a σ₁ => WE c i sl ρ (fun b σ₂ => WSub c i v sl a b ρ Q X σ₂) X σ₁) X σ) : WE c i (.Subscript v sl pos) ρ Q X σ := fun f fr z s a b g R =>
  Subscript_ (wuse (h f fr z s a b g R) (fun _ s₁ _ _ v₁ R₁ h₁ => wuse (h₁ f fr z s₁ a b g R₁) (fun _ s₂ _ _ v₂ R₂ h₂ => h₂ _ _ v₁ v₂ f fr z s₂ a b g R₂) fun _ _ x => x) fun _ _ x => x)
theorem WE.ifexp {t b o pos} (h : WT c i t ρ (fun k σ₁ => if k then WE c i b ρ Q X σ₁ else WE c i o ρ Q X σ₁) X σ) : WE c i (.IfExp t b o pos) ρ Q X σ := fun f fr z s a b' g R =>
  IfExp_ (wuse (h f fr z s a b' g R) (fun k s₁ k' _ e R₁ h₁ => by subst e; cases k' <;> exact h₁ f fr z s₁ a b' g R₁) fun _ _ x => x)
theorem WE.and1 {op e pos} (h : WE c i e ρ Q X σ) : WE c i (.BoolOp op [e] pos) ρ Q X σ := fun f fr z s a b g R => BoolOp_one (h f fr z s a b g R)
theorem WE.and {e₁ e₂ rest pos} (h : WE c i e₁ ρ (fun v σ₁ => WTr c i v ρ (fun k σ₂ => if k then WE c i (.BoolOp .And (e₂ :: rest) pos) ρ Q X σ₂ else Q v σ₂) X σ₁) X σ) : WE c i (.BoolOp .And (e₁ :: e₂ :: rest) pos) ρ Q X σ := fun f fr z s a b g R =>
  BoolOp_and (wuse (h f fr z s a b g R) (fun _ s₁ _ _ v₁ R₁ h₁ => wuse (h₁ _ v₁ f fr z s₁ a b g R₁) (fun k s₂ k' _ e R₂ h₂ => by
    subst e
    cases k' with
    | true => exact h₂ f fr z s₂ a b g R₂
    | false => exact ⟨_, _, v₁, R₂, h₂⟩) fun _ _ x => x) fun _ _ x => x)
theorem WE.or {e₁ e₂ rest pos} (h : WE c i e₁ ρ (fun v σ₁ => WTr c i v ρ (fun k σ₂ => if k then Q v σ₂ else WE c i (.BoolOp .Or (e₂ :: rest) pos) ρ Q X σ₂) X σ₁) X σ) : WE c i (.BoolOp .Or (e₁ :: e₂ :: rest) pos) ρ Q X σ := fun f fr z s a b g R =>
  BoolOp_or (wuse (h f fr z s a b g R) (fun _ s₁ _ _ v₁ R₁ h₁ => wuse (h₁ _ v₁ f fr z s₁ a b g R₁) (fun k s₂ k' _ e R₂ h₂ => by
    subst e
    cases k' with
    | false => exact h₂ f fr z s₂ a b g R₂
    | true => exact ⟨_, _, v₁, R₂, h₂⟩) fun _ _ x => x) fun _ _ x => x)
theorem WE.cmp1 {l op r pos} (hm : behindInMarks op r = false) (h : WE c i l ρ (fun a σ₁ => WE c i r ρ (fun b σ₂ => WC c i op a b ρ Q X σ₂) X σ₁) X σ) : WE c i (.Compare l [op] [r] pos) ρ Q X σ := fun f fr z s a b g R =>
  wpAny_Compare1 (wuse (h f fr z s a b g R) (fun _ s₁ _ _ v₁ R₁ h₁ => wuse (h₁ f fr z s₁ a b g R₁) (fun _ s₂ _ _ v₂ R₂ h₂ => h₂ _ _ v₁ v₂ f fr z s₂ a b g R₂) fun _ _ x => x) fun _ _ x => x) hm
theorem WE.cmp2 {l o₁ o₂ r₁ r₂ pos} (hm : lastMarks [o₁, o₂] [r₁, r₂] = false) (h : WE c i l ρ (fun a σ₁ => WE c i r₁ ρ (fun b σ₂ => WC c i o₁ a b ρ (fun d σ₃ => WTr c i d ρ (fun k σ₄ =>
      if k then WE c i r₂ ρ (fun b' σ₅ => WC c i o₂ b b' ρ Q X σ₅) X σ₄ else Q d σ₄) X σ₃) X σ₂) X σ₁) X σ) : WE c i (.Compare l [o₁, o₂] [r₁, r₂] pos) ρ Q X σ := fun f fr z s a b g R =>
  Compare_chain (wuse (h f fr z s a b g R) (fun _ s₁ _ _ v₁ R₁ h₁ => chain_link (wuse (h₁ f fr z s₁ a b g R₁) (fun _ s₂ _ _ v₂ R₂ h₂ => wuse (h₂ _ _ v₁ v₂ f fr z s₂ a b g R₂) (fun _ s₃ _ _ v₃ R₃ h₃ =>
    wuse (h₃ _ v₃ f fr z s₃ a b g R₃) (fun k s₄ k' _ e R₄ h₄ => by
      subst e
      cases k' with
      | true => exact chain_last (wuse (h₄ f fr z s₄ a b g R₄) (fun _ s₅ _ _ v₅ R₅ h₅ => h₅ _ _ v₂ v₅ f fr z s₅ a b g R₅) fun _ _ x => x)
      | false => exact ⟨_, _, v₃, R₄, h₄⟩) fun _ _ x => x) fun _ _ x => x) fun _ _ x => x)) fun _ _ x => x) hm
end
section
variable {c : Cx} {i : Ix} {ρ : Lo} {σ : Hp} {Q : Bool → Hp → Prop} {X : EX}
theorem WT.plain {e : Expr} (hp : TruthPlain e) (h : WE c i e ρ (fun v σ₁ => WTr c i v ρ Q X σ₁) X σ) : WT c i e ρ Q X σ := fun f fr z s a b g R =>
  isTrue_plain (wuse (h f fr z s a b g R) (fun _ s₁ _ _ v₁ R₁ h₁ => h₁ _ v₁ f fr z s₁ a b g R₁) fun _ _ x => x) (hp _ _)
theorem WT.not {e pos} (h : WT c i e ρ (fun k σ₁ => Q (!k) σ₁) X σ) : WT c i (.UnaryOp .Not e pos) ρ Q X σ := fun f fr z s a b g R =>
  isTrue_not (wuse (h f fr z s a b g R) (fun _ s₁ _ _ e R₁ h₁ => ⟨_, _, congrArg _ e, R₁, h₁⟩) fun _ _ x => x)
def WA (c : Cx) (i : Ix) (op : BoolOp) (es : List Expr) (pos : Pos) (t : Env → Sem Value) (ρ : Lo) (Q : Bool → Hp → Prop) := W c i (· = ·) (fun env => isTrue (.BoolOp op es pos) env (t env)) ρ Q
theorem WA.and_nil {pos t} (h : Q true σ) : WA c i .And [] pos t ρ Q X σ := fun f fr z s a b g R => isTrue_and_nil ⟨_, _, rfl, R, h⟩
theorem WA.or_nil {pos t} (h : Q false σ) : WA c i .Or [] pos t ρ Q X σ := fun f fr z s a b g R => isTrue_or_nil ⟨_, _, rfl, R, h⟩
theorem WA.and {e rest pos t} (h : WT c i e ρ (fun k σ₁ => if k then WA c i .And rest pos t ρ Q X σ₁ else Q false σ₁) X σ) : WA c i .And (e :: rest) pos t ρ Q X σ := fun f fr z s a b g R =>
  isTrue_and (wuse (h f fr z s a b g R) (fun _ s₁ k _ e R₁ h₁ => by
    subst e
    cases k with
    | true => exact h₁ f fr z s₁ a b g R₁
    | false => exact ⟨_, _, rfl, R₁, h₁⟩) fun _ _ x => x)
theorem WA.or {e rest pos t} (h : WT c i e ρ (fun k σ₁ => if k then Q true σ₁ else WA c i .Or rest pos t ρ Q X σ₁) X σ) : WA c i .Or (e :: rest) pos t ρ Q X σ := fun f fr z s a b g R =>
  isTrue_or (wuse (h f fr z s a b g R) (fun _ s₁ k _ e R₁ h₁ => by
    subst e
    cases k with
    | false => exact h₁ f fr z s₁ a b g R₁
    | true => exact ⟨_, _, rfl, R₁, h₁⟩) fun _ _ x => x)
theorem WT.bool {op es pos} (h : WA c i op es pos (eval (.BoolOp op es pos)) ρ Q X σ) : WT c i (.BoolOp op es pos) ρ Q X σ := h
theorem WT.ifexp {t b o pos} (h : WT c i t ρ (fun k σ₁ => if k then WT c i b ρ Q X σ₁ else WT c i o ρ Q X σ₁) X σ) : WT c i (.IfExp t b o pos) ρ Q X σ := fun f fr z s a b' g R =>
  isTrue_IfExp (wuse (h f fr z s a b' g R) (fun k s₁ k' _ e R₁ h₁ => by subst e; cases k' <;> exact h₁ f fr z s₁ a b' g R₁) fun _ _ x => x)
theorem WT.cmp1 {l op r pos} (hm : behindInMarks op r = false) (h : WE c i l ρ (fun a σ₁ => WE c i r ρ (fun b σ₂ => WC c i op a b ρ (fun d σ₃ => WTr c i d ρ Q X σ₃) X σ₂) X σ₁) X σ) : WT c i (.Compare l [op] [r] pos) ρ Q X σ := fun f fr z s a b g R =>
  wpAny_isTrue_Compare1 (wuse (h f fr z s a b g R) (fun _ s₁ _ _ v₁ R₁ h₁ => wuse (h₁ f fr z s₁ a b g R₁) (fun _ s₂ _ _ v₂ R₂ h₂ => wuse (h₂ _ _ v₁ v₂ f fr z s₂ a b g R₂) (fun _ s₃ _ _ v₃ R₃ h₃ => h₃ _ v₃ f fr z s₃ a b g R₃) fun _ _ x => x) fun _ _ x => x) fun _ _ x => x) hm
theorem WT.cmp2 {l o₁ o₂ r₁ r₂ pos} (hm : lastMarks [o₁, o₂] [r₁, r₂] = false) (h : WE c i l ρ (fun a σ₁ => WE c i r₁ ρ (fun b σ₂ => WC c i o₁ a b ρ (fun d σ₃ => WTr c i d ρ (fun k σ₄ =>
      if k then WE c i r₂ ρ (fun b' σ₅ => WC c i o₂ b b' ρ (fun d' σ₆ => WTr c i d' ρ Q X σ₆) X σ₅) X σ₄ else Q false σ₄) X σ₃) X σ₂) X σ₁) X σ) : WT c i (.Compare l [o₁, o₂] [r₁, r₂] pos) ρ Q X σ := fun f fr z s a b g R =>
  isTrue_chain (wuse (h f fr z s a b g R) (fun _ s₁ _ _ v₁ R₁ h₁ => test_link (wuse (h₁ f fr z s₁ a b g R₁) (fun _ s₂ _ _ v₂ R₂ h₂ => wuse (h₂ _ _ v₁ v₂ f fr z s₂ a b g R₂) (fun _ s₃ _ _ v₃ R₃ h₃ =>
    wuse (h₃ _ v₃ f fr z s₃ a b g R₃) (fun k s₄ k' _ e R₄ h₄ => by
      subst e
      cases k' with
      | true => exact test_last (wuse (h₄ f fr z s₄ a b g R₄) (fun _ s₅ _ _ v₅ R₅ h₅ => wuse (h₅ _ _ v₂ v₅ f fr z s₅ a b g R₅) (fun _ s₆ _ _ v₆ R₆ h₆ => h₆ _ v₆ f fr z s₆ a b g R₆) fun _ _ x => x) fun _ _ x => x)
      | false => exact ⟨_, _, rfl, R₄, h₄⟩) fun _ _ x => x) fun _ _ x => x) fun _ _ x => x)) fun _ _ x => x) hm
end
end Mine
open PySem PySem.W PyProof.Rows
namespace Mine
theorem mem_lookup {α : Type} {l : List (Str × α)} {x : Str} {a : α} (h : l.lookup x = some a) : (x, a) ∈ l := by
  induction l with
  | nil => cases h
  | cons p r ih =>
    obtain ⟨y, b⟩ := p
    rw [List.lookup_cons] at h
    cases hy : (x == y) with
    | true => rw [hy] at h; cases h; rw [beq_iff_eq.mp hy]; exact .head _
    | false => rw [hy] at h; exact .tail _ (ih h)
section
variable {c : Cx} {i : Ix} {ρ : Lo} {σ : Hp} {Q : MV → Hp → Prop} {X : EX}
theorem kindAt {f : Fm} {x : Str} {k : NameKind} (a : f.env.scope = i.sc) (h : i.sc.names.lookup x = some k) : f.env.kindOf x = some k := by
  show f.env.scope.names.lookup x = _; rw [a]; exact h
theorem WE.local {x pos v} (hl : i.sc.names.lookup x = some .local) (hd : (x == ("__debug__" : Str)) = false) (hv : ρ x = some v) (h : Q v σ) : WE c i (.Name x pos) ρ Q X σ := fun f fr z s a b g R => by
  obtain ⟨m, hn, hm⟩ := R.ns
  have := hm x (kindAt a hl)
  rw [hv] at this
  cases e : m x with
  | none => rw [e] at this; exact this.elim
  | some u => rw [e] at this; exact wpAny_Name (wpAny_loadName_local g.kind (kindAt a hl) hn e ⟨v, σ, this, R, h⟩) hd
theorem WE.cell {x pos v} (hl : i.sc.names.lookup x = some .cell) (hd : (x == ("__debug__" : Str)) = false) (hv : ρ x = some v) (h : Q v σ) : WE c i (.Name x pos) ρ Q X σ := fun f fr z s a b g R => by
  obtain ⟨k, hk⟩ := Option.isSome_iff_exists.mp (g.celled x (kindAt a hl))
  obtain ⟨o, u, ho, hd', hu⟩ := R.cel x k (mem_lookup hk)
  rw [hv] at hu
  cases u with
  | none => exact hu.elim
  | some u => exact wpAny_Name (wpAny_loadName_cell g.kind (kindAt a hl) hk ⟨o, ho, hd'⟩ ⟨v, σ, hu, R, h⟩) hd
theorem WE.global {x pos v} (hl : i.sc.names.lookup x = some .globalImplicit) (hv : c.glob x = some v) (h : Q v σ) : WE c i (.Name x pos) ρ Q X σ := fun f fr z s a b g R => by
  obtain ⟨hd, ⟨u, hu, is⟩ | ⟨hno, hn, u, hu, is⟩⟩ := g.ok.glob x v hv
  · refine Calls.Name_function_global g.kind (kindAt a hl) (Calls.loadGlobal_global (mg := c.mg) (v := u) (by rw [g.globals]; exact (g.at R).g) (mg_of g.K g.top.g hu) ⟨v, σ, is, R, h⟩) hd
  · refine Calls.Name_function_global g.kind (kindAt a hl) (Calls.loadGlobal_builtin (mg := c.mg) (mb := c.mb) (v := u) (by rw [g.globals]; exact (g.at R).g) (mg_none_of g.K g.top.g hno) (by rw [g.builtins]; exact (g.at R).b)
      ((g.top.builtins x hn).trans hu) ⟨v, σ, is, R, h⟩) hd
end
def Callee (c : Cx) : MV → Prop
  | .ref a => c.fns a = true ∨ (∃ C x, c.meth C x = some a) ∨ ∃ b, c.init a = some b
  | .con v => ∀ a, v ≠ .ref a
  | _ => False
theorem Callee.keeper {c : Cx} (ok : CxOk c) {fn : MV} {v : Value} {h : Heap} (K : c.K.In h) (x : Callee c fn) (is : fn.Is v) : ∃ k, (k = Keeper.frame ∨ k = Keeper.machine ∨ k = Keeper.boundFrame) ∧ Looks c.M h (keeperOf v) k := by
  cases fn with
  | ref a =>
    cases is
    rcases x with x | ⟨C, y, x⟩ | ⟨b, x⟩
    · exact keeps_K (ok.fns a x) h K
    · exact keeps_K (ok.meth C y a x).2.2.2 h K
    · exact keeps_K (ok.init a b x).2.2.2 h K
  | con u =>
    cases is
    refine ⟨.machine, .inr (.inl rfl), ?_⟩
    cases v <;> first | exact Looks.of_pure rfl | exact absurd rfl (x _)
  | _ => exact x.elim
section
variable {c : Cx} {i : Ix} {ρ : Lo} {σ : Hp} {X : EX}
theorem WEs.nil {pos} {Q : List MV → Hp → Prop} (h : Q [] σ) : WEs c i pos [] ρ Q X σ := fun f fr z s a b g R => spliced_none ⟨[], σ, .nil, R, h⟩
theorem WEs.cons {pos e es} {Q : List MV → Hp → Prop} (hs : noStar e = true) (h : WE c i e ρ (fun v σ₁ => WEs c i pos es ρ (fun vs σ₂ => Q (v :: vs) σ₂) X σ₁) X σ) : WEs c i pos (e :: es) ρ Q X σ := fun f fr z s a b g R =>
  spliced_more (wuse (h f fr z s a b g R) (fun _ s₁ _ _ v₁ R₁ h₁ => wuse (h₁ f fr z s₁ a b g R₁) (fun _ s₂ _ _ v₂ R₂ h₂ => ⟨_, _, .cons v₁ v₂, R₂, h₂⟩) fun _ _ x => x) fun _ _ x => x) (starEach_cons hs)
theorem W.callWith {pos : Pos} {fn : MV} {v : Value} {first : List MV} {us : List Value} {es : List Expr} {Q : MV → Hp → Prop} (ic : Callee c fn) (iv : fn.Is v) (iu : All2 MV.Is first us) (hs : es.all noStar = true)
    (h : WEs c i pos es ρ (fun vs σ₁ => WCall c i fn (first ++ vs) ρ Q X σ₁) X σ) : W c i MV.Is (fun env => callWith pos v us (backTo pos (starEach es env)) []) ρ Q X σ := fun f fr z s a b g R => by
  refine callWith_of (P := fun h => c.K.In h) ?_ (fun h K => ic.keeper g.ok K iv) ?_
  · rw [back_any hs]; rfl
  · cases es with
    | nil =>
      refine evalArgs_nil3 ?_
      obtain h := h f fr z s a b g R
      refine ⟨g.inK R, ?_⟩
      have h := h
      have key : wpAny c.M f.A (spliced (backTo pos (starEach [] f.env))) (fun vs s₁ => vs = [] → s₁ = s → wpAny c.M f.A (call v (us ++ [])) (fun a s' => ∃ m σ', MV.Is m a ∧ c.Rel f ρ σ' fr z s' ∧ Q m σ') (XPost c f fr z (X.at ρ)) s) (XPost c f fr z (X.at ρ)) s := by
        refine wpAny_mono h (fun vs s₁ ⟨ms, σ₁, iv', R₁, h₁⟩ e1 e2 => ?_) fun _ _ x => x
        subst e1 e2
        cases iv'
        exact h₁ _ _ iv (iu.append .nil) f fr z _ a b g R₁
      intro Γ p hΓ
      exact key Γ p hΓ rfl rfl Γ p hΓ
    | cons e es =>
      have hs' := hs
      simp only [List.all_cons, Bool.and_eq_true] at hs'
      have h := h f fr z s a b g R
      dsimp only at h
      rw [starEach_cons hs'.1] at h ⊢
      refine Calls.evalArgs_plain (wpAny_mono h (fun vs s₁ ⟨ms, σ₁, iv', R₁, h₁⟩ => ⟨g.inK R₁, h₁ _ _ iv (iu.append iv') f fr z s₁ a b g R₁⟩) fun _ _ x => x)
theorem WE.call {fe es pos} {Q : MV → Hp → Prop} (hf : (match fe with | .Attribute .. => false | _ => true) = true) (hs : es.all noStar = true)
    (h : WE c i fe ρ (fun fn σ₁ => Callee c fn ∧ WEs c i pos es ρ (fun vs σ₂ => WCall c i fn vs ρ Q X σ₂) X σ₁) X σ) : WE c i (.Call fe es [] pos) ρ Q X σ := fun f fr z s a b g R =>
  Call_ (wpAny_mono (h f fr z s a b g R) (fun _ s₁ ⟨fn, _, v₁, R₁, ic, h₁⟩ => W.callWith (first := []) ic v₁ .nil hs h₁ f fr z s₁ a b g R₁) fun _ _ x => x) (by cases fe <;> first | rfl | cases hf)
end
theorem eval_method {o : Expr} {name : Str} {apos pos : Pos} {es : List Expr} {env : Env} (hp : AttrPlain o name) (hs : es.all noStar = true) (hl : decide (es.length < 30) = true) (hpos : (apos.endLine == pos.line) = true) :
    eval (.Call (.Attribute o name apos) es [] pos) env = (do
      let ov ← eval o env
      standAt apos.atName
      let (f, first) ← holding [ov] (getMethod ov name (do return (← importBound o env).getD true))
      callWith pos f first (backTo pos (starEach es env)) []) := by
  have h1 : methodCallForm (es.length + 0) (backTo pos (starEach es env)) [] = true := by
    unfold methodCallForm
    have : (backTo pos (starEach es env)).all (fun x => !x.1) = true := by
      have h := back_any (pos := pos) (env := env) hs
      rw [List.all_eq_not_any_not]
      simp only [Bool.not_not]
      rw [h]; rfl
    rw [this]
    simp only [List.all_nil, List.isEmpty_nil, if_true, Bool.and_self, Bool.true_and]
    simpa using of_decide_eq_true hl
  have e0 : eval (.Call (.Attribute o name apos) es [] pos) env = (do
      let ov ← attributeBase o name env (eval o env)
      standAt apos.atName
      methodCall o name apos pos env ov (es.length + 0) (backTo pos (starEach es env)) []) := by with_unfolding_all rfl
  rw [e0, hp]
  unfold methodCall
  rw [h1]
  have h2 : methodCallPos true o env apos pos = pure pos := by unfold methodCallPos; rw [hpos]; rfl
  rw [h2]
  rfl
def PairIs (x : MV × List MV) (y : Value × List Value) : Prop := x.1.Is y.1 ∧ All2 MV.Is x.2 y.2
def WM (c : Cx) (i : Ix) (ov : MV) (name : Str) (ρ : Lo) (Q : MV × List MV → Hp → Prop) (X : EX) (σ : Hp) := ∀ v pl, ov.Is v → W c i PairIs (fun _ => getMethod v name pl) ρ Q X σ
section
variable {c : Cx} {i : Ix} {ρ : Lo} {σ : Hp} {X : EX}
theorem WE.method {o name apos es pos} {Q : MV → Hp → Prop} (hp : AttrPlain o name) (hs : es.all noStar = true) (hl : decide (es.length < 30) = true) (hpos : (apos.endLine == pos.line) = true)
    (h : WE c i o ρ (fun ov σ₁ => WM c i ov name ρ (fun fx σ₂ => Callee c fx.1 ∧ WEs c i pos es ρ (fun vs σ₃ => WCall c i fx.1 (fx.2 ++ vs) ρ Q X σ₃) X σ₂) X σ₁) X σ) : WE c i (.Call (.Attribute o name apos) es [] pos) ρ Q X σ := fun f fr z s a b g R =>
  MethodCall_ (wpAny_mono (h f fr z s a b g R) (fun _ s₁ ⟨_, _, v₁, R₁, h₁⟩ => wpAny_mono (h₁ _ _ v₁ f fr z s₁ a b g R₁) (fun fx s₂ ⟨_, _, v₂, R₂, ic, h₂⟩ => W.callWith ic v₂.1 v₂.2 hs h₂ f fr z s₂ a b g R₂) fun _ _ x => x) fun _ _ x => x) (eval_method hp hs hl hpos)
end
def WSt (c : Cx) (i : Ix) (x : Str) (v : MV) (ρ : Lo) (Q : Lo → Hp → Prop) (X : SX) (σ : Hp) : Prop :=
  ∀ u, v.Is u → ∀ f fr z s, f.env.scope = i.sc → (i.hn = true → f.A.handled = none) → Good c i.n f fr → c.Rel f ρ σ fr z s →
    wpAny c.M f.A (storeName f.env x u) (fun _ s' => ∃ ρ' σ', c.Rel f ρ' σ' fr z s' ∧ Q ρ' σ') (XPost c f fr z X) s
theorem Rel.putLocal {c : Cx} {f : Fm} {ρ : Lo} {σ : Hp} {fr : Nat → Option Obj} {z s : Shared} (R : c.Rel f ρ σ fr z s) {x : Str} {v : MV} {u : Value} (is : v.Is u) {m : Str → Option Value} {h' : Heap} {tk : Nat}
    (hm : ∀ y, f.env.scope.names.lookup y = some .local → OptIs (ρ y) (m y)) (hn : h'.Ns f.env.locals (fun y => if y = x then some u else m y)) (hs : Heap.SameBut f.env.locals s.heap h')
    (hx : f.env.scope.names.lookup x = some .local) (hc : ∀ k, (x, k) ∉ f.env.cells) (hcl : ∀ y k, (y, k) ∈ f.env.cells → k ≠ f.env.locals) : c.Rel f (ρ.put x v) σ fr z { s with heap := h', toks := tk } where
  same := R.same
  keep := fun a o e => let ⟨sl, e1, e2⟩ := R.keep a o e; ⟨sl, (hs.2 a fun q => by have := R.frame.1; rw [show f.L = a from q.symm, e] at this; cases this).trans e1, e2⟩
  objs := fun a t mo e => (R.objs a t mo e).of_same (fun o e' => (hs.2 a (R.neL e)).trans e') fun d o hi ed e' => (hs.2 d (by
    subst ed
    cases mo <;> first | cases hi | skip
    exact (R.apart d (.inr ⟨_, _, _, e⟩)).2.1)).trans e'
  wf := R.wf
  apart := R.apart
  ns := ⟨_, hn, fun y hy => by
    by_cases q : y = x
    · subst q; simp only [Lo.put, if_true]; exact is
    · simp only [Lo.put, if_neg q]; exact hm y hy⟩
  cel := fun y k hk => by
    obtain ⟨o, v', e, d, r⟩ := R.cel y k hk
    refine ⟨o, v', (hs.2 k (hcl y k hk)).trans e, d, ?_⟩
    have : y ≠ x := fun q => hc k (q ▸ hk)
    simp only [Lo.put, if_neg this]; exact r
  frame := R.frame
  kl := R.kl
theorem Rel.putCell {c : Cx} {f : Fm} {ρ : Lo} {σ : Hp} {fr : Nat → Option Obj} {z s : Shared} (R : c.Rel f ρ σ fr z s) {x : Str} {v : MV} {u : Value} (is : v.Is u) {h' : Heap} {tk : Nat} {k : Nat}
    (hk : (x, k) ∈ f.env.cells) (hi : h'.IsCell k (some u)) (hs : Heap.SameBut k s.heap h') (hx : f.env.scope.names.lookup x ≠ some .local) (hnd : (f.env.cells.map (·.2)).Nodup ∧ (f.env.cells.map (·.1)).Nodup ∧ ∀ x k, (x, k) ∈ f.env.cells → k ≠ f.env.locals) : c.Rel f (ρ.put x v) σ fr z { s with heap := h', toks := tk } where
  same := R.same
  keep := fun a o e => let ⟨sl, e1, e2⟩ := R.keep a o e; ⟨sl, (hs.2 a fun q => by have := (R.frame.2 x k hk).1; rw [← q, e] at this; cases this).trans e1, e2⟩
  objs := fun a t mo e => (R.objs a t mo e).of_same (fun o e' => (hs.2 a (R.neC e hk)).trans e') fun d o hi ed e' => (hs.2 d (by
    subst ed
    cases mo <;> first | cases hi | skip
    exact (R.apart d (.inr ⟨_, _, _, e⟩)).2.2 x k hk)).trans e'
  wf := R.wf
  apart := R.apart
  ns := by
    obtain ⟨m, hn, hm⟩ := R.ns
    refine ⟨m, hn.sameBut hs (Ne.symm (hnd.2.2 x k hk)), fun y hy => ?_⟩
    have : y ≠ x := fun q => hx (q ▸ hy)
    simp only [Lo.put, if_neg this]; exact hm y hy
  cel := fun y k' hk' => by
    by_cases q : y = x
    · subst q
      have : k' = k := by
        have h1 := hnd.2.1
        have : ∀ (l : List (Str × Nat)), (l.map (·.1)).Nodup → (y, k') ∈ l → (y, k) ∈ l → k' = k := by
          intro l
          induction l with
          | nil => intro _ h; cases h
          | cons p r ih =>
            intro hn ha hb
            simp only [List.map_cons, List.nodup_cons] at hn
            rcases List.mem_cons.mp ha with ha | ha <;> rcases List.mem_cons.mp hb with hb | hb
            · rw [← ha] at hb; cases hb; rfl
            · exact absurd (List.mem_map.mpr ⟨_, hb, by rw [← ha]⟩) hn.1
            · exact absurd (List.mem_map.mpr ⟨_, ha, by rw [← hb]⟩) hn.1
            · exact ih hn.2 ha hb
        exact this _ h1 hk' hk
      subst this
      obtain ⟨o, ho, hd⟩ := hi
      exact ⟨o, some u, ho, hd, by simp only [Lo.put, if_true]; exact is⟩
    · obtain ⟨o, v', e, d, r⟩ := R.cel y k' hk'
      have hne : k' ≠ k := fun q2 => by
        subst q2
        have h1 := hnd.1
        have : ∀ (l : List (Str × Nat)), (l.map (·.2)).Nodup → (y, k') ∈ l → (x, k') ∈ l → y = x := by
          intro l
          induction l with
          | nil => intro _ h; cases h
          | cons p r ih =>
            intro hn ha hb
            simp only [List.map_cons, List.nodup_cons] at hn
            rcases List.mem_cons.mp ha with ha | ha <;> rcases List.mem_cons.mp hb with hb | hb
            · rw [← ha] at hb; cases hb; rfl
            · exact absurd (List.mem_map.mpr ⟨_, hb, by rw [← ha]⟩) hn.1
            · exact absurd (List.mem_map.mpr ⟨_, ha, by rw [← hb]⟩) hn.1
            · exact ih hn.2 ha hb
        exact q (this _ h1 hk' hk)
      refine ⟨o, v', (hs.2 k' hne).trans e, d, ?_⟩
      simp only [Lo.put, if_neg q]; exact r
  frame := R.frame
  kl := R.kl
section
variable {c : Cx} {i : Ix} {ρ : Lo} {σ : Hp} {X : SX}
theorem WSt.local {x v} {Q : Lo → Hp → Prop} (hl : i.sc.names.lookup x = some .local) (h : Q (ρ.put x v) σ) : WSt c i x v ρ Q X σ := fun u is f fr z s a b g R => by
  obtain ⟨m, hn, hm⟩ := R.ns
  refine wpAny_storeName_local (kindAt a hl) hn (fun h' hn' hs' => ⟨_, _, R.putLocal is hm hn' hs' (kindAt a hl) (fun k hk => g.cellk x k hk (kindAt a hl)) (fun y k hk => g.cellnd.2.2 y k hk), h⟩) ?_
  rw [g.kind]; rfl
theorem WSt.cell {x v} {Q : Lo → Hp → Prop} (hl : i.sc.names.lookup x = some .cell) (h : Q (ρ.put x v) σ) : WSt c i x v ρ Q X σ := fun u is f fr z s a b g R => by
  obtain ⟨k, hk⟩ := Option.isSome_iff_exists.mp (g.celled x (kindAt a hl))
  obtain ⟨o, w, ho, hd', hu⟩ := R.cel x k (mem_lookup hk)
  refine wpAny_storeName_cell g.kind (kindAt a hl) hk ⟨o, ho, hd'⟩ fun h' hi hs => ⟨_, _, R.putCell is (mem_lookup hk) hi hs (by rw [show f.env.scope.names.lookup x = some .cell from kindAt a hl]; intro q; cases q) g.cellnd, h⟩
abbrev NoComp (e : Expr) : Prop := ∀ t n env, swapsWith e t n env = pure false
theorem Ex.at {f : Fm} {fr : Nat → Option Obj} {z : Shared} {X : SX} {ρ : Lo} {v : Value} {s : Shared} (h : XPost c f fr z (EX.at (fun b C e σ' => X b C e ρ σ') ρ) v s) : XPost c f fr z X v s := by
  obtain ⟨b, C, e, ρ', σ', rfl, r, rfl, q⟩ := h
  exact ⟨b, C, e, _, σ', rfl, r, q⟩
variable {Q : MF → Lo → Hp → Prop}
abbrev SX.ex (X : SX) (ρ : Lo) : EX := fun b C e σ' => X b C e ρ σ'
theorem WSs.nil (h : Q .next ρ σ) : WSs c i [] ρ Q X σ := fun f fr z s a b g R => wpAny_execs_nil ⟨.next, ρ, σ, rfl, R, h⟩
theorem WSs.cons {st rest} (h : WS c i st ρ (fun m ρ₁ σ₁ => match m with | .next => WSs c i rest ρ₁ Q X σ₁ | m => Q m ρ₁ σ₁) X σ) : WSs c i (st :: rest) ρ Q X σ := fun f fr z s a b g R =>
  wpAny_execs_cons (wuse6 (h f fr z s a b g R) (fun fl s₁ m ρ₁ σ₁ is R₁ h₁ => by
    cases m with
    | next => cases is; exact h₁ f fr z s₁ a b g R₁
    | brk => cases is; exact ⟨.brk, ρ₁, σ₁, rfl, R₁, h₁⟩
    | cont => cases is; exact ⟨.cont, ρ₁, σ₁, rfl, R₁, h₁⟩
    | ret v => obtain ⟨u, rfl, is⟩ := is; exact ⟨.ret v, ρ₁, σ₁, ⟨u, rfl, is⟩, R₁, h₁⟩) fun _ _ x => x)
theorem WS.pass {pos} (h : Q .next ρ σ) : WS c i (.Pass pos) ρ Q X σ := fun f fr z s a b g R => wpAny_Pass ⟨.next, ρ, σ, rfl, R, h⟩
theorem WS.brk {pos} (h : Q .brk ρ σ) : WS c i (.Break pos) ρ Q X σ := fun f fr z s a b g R => wpAny_Break ⟨.brk, ρ, σ, rfl, R, h⟩
theorem WS.expr {e pos} (hi : NoComp e) (h : WE c i e ρ (fun v σ₁ => Q .next ρ σ₁) (X.ex ρ) σ) : WS c i (.Expr e pos) ρ Q X σ := fun f fr z s a b g R =>
  wpAny_Expr_any (wuse (h f fr z s a b g R) (fun _ s₁ _ σ₁ _ R₁ h₁ => ⟨.next, ρ, σ₁, rfl, R₁, h₁⟩) fun _ _ x => Ex.at x) (by
    show (f.env.scope.kind == .module && _) = false
    rw [g.kind]; rfl) (hi _ _ _)
theorem WS.ret {e pos} (h : WE c i e ρ (fun v σ₁ => Q (.ret v) ρ σ₁) (X.ex ρ) σ) : WS c i (.Return (some e) pos) ρ Q X σ := fun f fr z s a b g R =>
  wpAny_Return_some (wuse (h f fr z s a b g R) (fun u s₁ v σ₁ is R₁ h₁ => ⟨.ret v, ρ, σ₁, ⟨u, rfl, is⟩, R₁, h₁⟩) fun _ _ x => Ex.at x)
theorem WS.retNone {pos} (h : Q (.ret .none) ρ σ) : WS c i (.Return none pos) ρ Q X σ := fun f fr z s a b g R => wpAny_Return_none ⟨.ret .none, ρ, σ, ⟨_, rfl, rfl⟩, R, h⟩
theorem WS.assign {x xp e pos} (hi : NoComp e) (h : WE c i e ρ (fun v σ₁ => WSt c i x v ρ (fun ρ₂ σ₂ => Q .next ρ₂ σ₂) X σ₁) (X.ex ρ) σ) : WS c i (.Assign [.Name x xp] e pos) ρ Q X σ := fun f fr z s a b g R =>
  wpAny_Assign_Name (wuse (h f fr z s a b g R) (fun u s₁ v σ₁ is R₁ h₁ => wuse4 (h₁ u is f fr z s₁ a b g R₁) (fun _ s₂ ρ₂ σ₂ R₂ h₂ => ⟨.next, ρ₂, σ₂, rfl, R₂, h₂⟩) fun _ _ x => x) fun _ _ x => Ex.at x) (hi _ _ _)
theorem WS.setAttr {o name op e pos} (hi : NoComp e) (h : WE c i e ρ (fun v σ₁ => WE c i o ρ (fun ov σ₂ => WSet c i ov name v ρ (fun _ σ₃ => Q .next ρ σ₃) (X.ex ρ) σ₂) (X.ex ρ) σ₁) (X.ex ρ) σ) : WS c i (.Assign [.Attribute o name op] e pos) ρ Q X σ := fun f fr z s a b g R =>
  plainObj_wpAny_Assign_Attribute (wuse (h f fr z s a b g R) (fun u s₁ v σ₁ is R₁ h₁ => wuse (h₁ f fr z s₁ a b g R₁) (fun u₂ s₂ v₂ σ₂ is₂ R₂ h₂ => wpAny_mono (h₂ _ _ is₂ is f fr z s₂ a b g R₂)
    (fun _ s₃ ⟨_, σ₃, _, R₃, h₃⟩ => ⟨.next, ρ, σ₃, rfl, R₃, h₃⟩) fun _ _ x => Ex.at x) fun _ _ x => Ex.at x) fun _ _ x => Ex.at x) (hi _ _ _)
theorem WS.setItem {o k op e pos} (hi : NoComp e) (h : WE c i e ρ (fun v σ₁ => WE c i o ρ (fun ov σ₂ => WE c i k ρ (fun kv σ₃ => WPut c i ov kv v ρ (fun _ σ₄ => Q .next ρ σ₄) (X.ex ρ) σ₃) (X.ex ρ) σ₂) (X.ex ρ) σ₁) (X.ex ρ) σ) :
    WS c i (.Assign [.Subscript o k op] e pos) ρ Q X σ := fun f fr z s a b g R =>
  wpAny_Assign_Subscript (wuse (h f fr z s a b g R) (fun u s₁ v σ₁ is R₁ h₁ => wuse (h₁ f fr z s₁ a b g R₁) (fun u₂ s₂ v₂ σ₂ is₂ R₂ h₂ => wuse (h₂ f fr z s₂ a b g R₂) (fun u₃ s₃ v₃ σ₃ is₃ R₃ h₃ =>
    wuse (h₃ _ _ _ is₂ is₃ is f fr z s₃ a b g R₃) (fun _ s₄ _ σ₄ _ R₄ h₄ => ⟨.next, ρ, σ₄, rfl, R₄, h₄⟩) fun _ _ x => Ex.at x) fun _ _ x => Ex.at x) fun _ _ x => Ex.at x) fun _ _ x => Ex.at x) (hi _ _ _)
theorem WS.augAttr {o name tp op e pos} (h : WE c i o ρ (fun ov σ₁ => WGet c i ov name ρ (fun old σ₂ => WE c i e ρ (fun v σ₃ => WI c i op old v ρ (fun n σ₄ => WSet c i ov name n ρ (fun _ σ₅ => Q .next ρ σ₅) (X.ex ρ) σ₄) (X.ex ρ) σ₃) (X.ex ρ) σ₂) (X.ex ρ) σ₁) (X.ex ρ) σ) :
    WS c i (.AugAssign (.Attribute o name tp) op e pos) ρ Q X σ := fun f fr z s a b g R =>
  wpAny_AugAssign_AttributeAny (wuse (h f fr z s a b g R) (fun u s₁ v σ₁ is R₁ h₁ => wuse (h₁ _ is f fr z s₁ a b g R₁) (fun u₂ s₂ v₂ σ₂ is₂ R₂ h₂ => wuse (h₂ f fr z s₂ a b g R₂) (fun u₃ s₃ v₃ σ₃ is₃ R₃ h₃ =>
    wuse (h₃ _ _ is₂ is₃ f fr z s₃ a b g R₃) (fun u₄ s₄ _ σ₄ is₄ R₄ h₄ => wuse (h₄ _ _ is is₄ f fr z s₄ a b g R₄) (fun _ s₅ _ σ₅ _ R₅ h₅ => ⟨.next, ρ, σ₅, rfl, R₅, h₅⟩) fun _ _ x => Ex.at x) fun _ _ x => Ex.at x) fun _ _ x => Ex.at x) fun _ _ x => Ex.at x) fun _ _ x => Ex.at x)
theorem WS.ite {t b o pos} (h : WT c i t ρ (fun k σ₁ => if k then WSs c i b ρ Q X σ₁ else WSs c i o ρ Q X σ₁) (X.ex ρ) σ) : WS c i (.If t b o pos) ρ Q X σ := fun f fr z s a b' g R =>
  wpAny_If (wuse (h f fr z s a b' g R) (fun k s₁ k' σ₁ e R₁ h₁ => by subst e; cases k' <;> exact h₁ f fr z s₁ a b' g R₁) fun _ _ x => Ex.at x)
end
end Mine
open PySem PySem.W PyProof.Rows
namespace Mine
def bindLo : List Str → List MV → Lo → Lo
  | p :: ps, a :: as, ρ => bindLo ps as (ρ.put p a)
  | _, _, ρ => ρ
def scopeOk (scope : Scope) (ps : List Str) : Bool :=
  scope.kind == .function && !scope.isCoroutine && !scope.isGenerator &&
  ps.all (fun x => scope.names.lookup x == some .local || scope.names.lookup x == some .cell) &&
  (cellsFrom 0 scope.names []).all (fun p => scope.names.lookup p.1 != some .local) && decide ((cellsFrom 0 scope.names []).map (·.1)).Nodup
theorem bindLo_local {kind : Str → Option NameKind} {x : Str} (hx : kind x = some .local) : ∀ {ps : List Str} {as : List MV} {us : List Value} {ρ : Lo} {m : Str → Option Value}, All2 MV.Is as us → OptIs (ρ x) (m x) → OptIs (bindLo ps as ρ x) (bindL kind (ps.zip us) m x)
  | [], as, us, ρ, m, _, h => by simpa [bindLo, bindL] using h
  | p :: ps, [], us, ρ, m, hh, h => by cases hh; simpa [bindLo, bindL] using h
  | p :: ps, a :: as, _, ρ, m, .cons r rs, h => by
    simp only [bindLo, List.zip_cons_cons, bindL]
    refine bindLo_local hx rs ?_
    by_cases q : x = p
    · subst q; simp only [Lo.put, if_true, hx]; exact r
    · by_cases k : kind p = some .local
      · simp only [Lo.put, if_neg q, if_pos k]; exact h
      · simp only [Lo.put, if_neg q, if_neg k]; exact h
theorem bindLo_cell {kind : Str → Option NameKind} {x : Str} (hx : kind x ≠ some .local) : ∀ {ps : List Str} {as : List MV} {us : List Value} {ρ : Lo} {m : Str → Option Value}, All2 MV.Is as us → OptIs (ρ x) (m x) → OptIs (bindLo ps as ρ x) (bindC kind (ps.zip us) m x)
  | [], as, us, ρ, m, _, h => by simpa [bindLo, bindC] using h
  | p :: ps, [], us, ρ, m, hh, h => by cases hh; simpa [bindLo, bindC] using h
  | p :: ps, a :: as, _, ρ, m, .cons r rs, h => by
    simp only [bindLo, List.zip_cons_cons, bindC]
    refine bindLo_cell hx rs ?_
    by_cases q : x = p
    · subst q; simp only [Lo.put, if_true, if_neg hx]; exact r
    · by_cases k : kind p = some .local
      · simp only [Lo.put, if_neg q, if_pos k]; exact h
      · simp only [Lo.put, if_neg q, if_neg k]; exact h
def MF.val : MF → MV
  | .ret v => v
  | _ => .none
theorem cellsFrom_lt : ∀ (names : List (Str × NameKind)) (n : Nat) (acc : List (Str × Nat)), (∀ p ∈ acc, p.2 < n) → (acc.map (·.2)).Nodup → ((cellsFrom n names acc).map (·.2)).Nodup
  | [], n, acc, _, h => h
  | (y, k) :: r, n, acc, ha, h => by
    unfold cellsFrom
    by_cases hk : (k == .cell) = true
    · rw [if_pos hk]
      refine cellsFrom_lt r (n + 1) ((y, n) :: acc) (fun p hp => ?_) ?_
      · rcases List.mem_cons.mp hp with rfl | hp
        · exact Nat.lt_succ_self _
        · exact Nat.lt_succ_of_lt (ha p hp)
      · simp only [List.map_cons, List.nodup_cons]
        refine ⟨fun hm => ?_, h⟩
        obtain ⟨p, hp, e⟩ := List.mem_map.mp hm
        have := ha p hp
        omega
    · rw [if_neg hk]; exact cellsFrom_lt r n acc ha h
open Classical in
noncomputable def restOf (σ : Hp) (s : Shared) : Nat → Option Obj := fun a => if Foot σ a then none else s.heap.get? a
theorem Good.frame_in {c : Cx} {n : Nat} {f : Fm} {fr : Nat → Option Obj} (g : Good c n f fr) {ρ : Lo} {σ : Hp} {z s : Shared} (R : c.Rel f ρ σ fr z s) : ∀ env ∈ f.top :: f.outer, env.scope.kind ≠ .module ∧ ∃ L o, env.frame = some L ∧ restOf σ s L = some o ∧ (∀ vs, o.data ≠ .fields vs) ∧ f.base.get? L = none := by
  intro env he
  rcases List.mem_cons.mp he with rfl | he
  · refine ⟨by rw [g.topk.1]; (intro q; cases q), ?_⟩
    obtain ⟨L, hL, h, hb⟩ := g.topL
    rcases h with rfl | ⟨hs, o, ho, hd⟩
    · obtain ⟨m, ⟨o, es, ep, h1, h2, _⟩, _⟩ := R.ns
      refine ⟨_, o, hL, ?_, fun vs e => (by rw [h2] at e; cases e), hb⟩
      unfold restOf
      rw [if_neg fun hf => (R.apart _ hf).2.1 rfl]; exact h1
    · obtain ⟨sl, h1, _⟩ := R.keep L o ho
      refine ⟨L, { o with slots := sl }, hL, ?_, hd, hb⟩
      unfold restOf
      rw [if_neg fun hf => by have := (R.apart _ hf).1; rw [ho] at this; cases this]; exact h1
  · obtain ⟨hk, L, o, hL, hs, ho, hd⟩ := g.outer env he
    obtain ⟨sl, h1, _⟩ := R.keep L o ho
    refine ⟨hk, L, { o with slots := sl }, hL, ?_, hd, g.apart L hs⟩
    unfold restOf
    rw [if_neg fun hf => by have := (R.apart _ hf).1; rw [ho] at this; cases this]; exact h1
def newFm (f : Fm) (qual : Str) (scope : Scope) (L fa : Nat) (cd : Value) : Fm where
  A := f.A.deeper (envOfC qual scope L fa cd)
  env := envOfC qual scope L fa cd
  top := envOfC qual scope L fa cd
  outer := f.top :: f.outer
  slotted := frameAddrs (f.top :: f.outer)
  base := f.base
theorem Rel.back {c : Cx} {n : Nat} {f f' : Fm} {fr : Nat → Option Obj} (g : Good c n f fr) {ρ ρ' : Lo} {σ σ' : Hp} {z s s' : Shared} (R : c.Rel f ρ σ fr z s) (hs : f'.slotted = frameAddrs (f.top :: f.outer)) (hbs : f'.base = f.base) (R' : c.Rel f' ρ' σ' (restOf σ s) z s') : c.Rel f ρ σ' fr z s' := by
  have rest : ∀ {a : Nat} {o : Obj}, ¬ Foot σ a → s.heap.get? a = some o → restOf σ s a = some o := fun h e => by unfold restOf; rw [if_neg h]; exact e
  have nf : ∀ {a : Nat} {o : Obj}, fr a = some o → ¬ Foot σ a := fun e h => by have := (R.apart _ h).1; rw [e] at this; cases this
  have nL : ¬ Foot σ f.env.locals := fun h => (R.apart _ h).2.1 rfl
  have nC : ∀ {x k}, (x, k) ∈ f.env.cells → ¬ Foot σ k := fun hk h => (R.apart _ h).2.2 _ _ hk rfl
  obtain ⟨m, ⟨oL, es, ep, h1, h2⟩, hm⟩ := R.ns
  refine ⟨R'.same, fun a o e => ?_, R'.objs, R'.wf, fun a hf => ⟨?_, ?_, fun x k hk => ?_⟩, ?_, fun x k hk => ?_, R.frame, fun a t xs o e => hbs ▸ R'.kl a t xs o e⟩
  · obtain ⟨sl, e1, e2⟩ := R.keep a o e
    obtain ⟨sl', e3, e4⟩ := R'.keep a _ (rest (nf e) e1)
    refine ⟨sl', e3, fun ha => ?_⟩
    rw [e4 fun hm => ?_, ← e2 ha]
    rw [hs] at hm
    rcases g.slots a hm with rfl | h
    · have := R.frame.1; rw [show fr f.L = fr f.env.locals from rfl, e] at this; cases this
    · exact ha h
  · cases e : fr a with
    | none => rfl
    | some o =>
      obtain ⟨sl, e1, _⟩ := R.keep a o e
      have := (R'.apart a hf).1
      rw [rest (nf e) e1] at this; cases this
  · intro q
    have := (R'.apart a hf).1
    rw [q, rest nL h1] at this; cases this
  · intro q
    obtain ⟨o, v, e1, _⟩ := R.cel x k hk
    have := (R'.apart a hf).1
    rw [q, rest (nC hk) e1] at this; cases this
  · obtain ⟨sl, e1, _⟩ := R'.keep _ _ (rest nL h1)
    exact ⟨m, ⟨_, es, ep, e1, h2⟩, hm⟩
  · obtain ⟨o, v, e1, d, r⟩ := R.cel x k hk
    obtain ⟨sl, e2, _⟩ := R'.keep _ _ (rest (nC hk) e1)
    exact ⟨_, v, e2, d, r⟩
theorem scopeOk_of {scope : Scope} {ps : List Str} (h : scopeOk scope ps = true) : scope.kind = .function ∧ scope.isCoroutine = false ∧ scope.isGenerator = false ∧ (∀ x ∈ ps, scope.names.lookup x = some .local ∨ scope.names.lookup x = some .cell) ∧
    (∀ p ∈ cellsFrom 0 scope.names [], scope.names.lookup p.1 ≠ some .local) ∧ ((cellsFrom 0 scope.names []).map (·.1)).Nodup := by
  simp only [scopeOk, Bool.and_eq_true, beq_iff_eq, Bool.not_eq_true', List.all_eq_true, Bool.or_eq_true, bne_iff_ne, ne_eq, decide_eq_true_eq] at h
  obtain ⟨⟨⟨⟨⟨a, b⟩, c⟩, d⟩, e⟩, f⟩ := h
  exact ⟨a, b, c, d, e, f⟩
structure FnAt (c : Cx) (a : Nat) (ps : List Str) (body : List Stmt) (scope : Scope) : Prop where
  at_ : ∃ oc od osl name qual params dV kV doc pm an cdv ct, c.K.lookup a = some ⟨oc, od, .func (fnX name qual params body scope [] dV kV doc pm an cdv ct), osl⟩ ∧ codeIn c.K cdv qual = true ∧
    ∀ us : List Value, us.length = ps.length → bindArgs (fnX name qual params body scope [] dV kV doc pm an cdv ct) ⟨us, []⟩ = pure (ps.zip us)
  scope : scopeOk scope ps = true
theorem newFm_good {c : Cx} {n : Nat} {f : Fm} {fr : Nat → Option Obj} (g : Good c (n + 1) f fr) {ρ : Lo} {σ : Hp} {z s : Shared} (R : c.Rel f ρ σ fr z s) {qual : Str} {scope : Scope} {fa : Nat} {cd : Value} {ps : List Str} (hs : scopeOk scope ps = true) :
    Good c n (newFm f qual scope s.heap.objs.size fa cd) (restOf σ s) := by
  obtain ⟨hk, hco, hgen, hps, hcl, hnd⟩ := scopeOk_of hs
  have nm := cellsFrom_names scope.names 0 (s.heap.objs.size + 1) [] [] rfl
  have cellk : ∀ x k, (x, k) ∈ cellsFrom (s.heap.objs.size + 1) scope.names [] → scope.names.lookup x ≠ some .local := fun x k hx => by
    have : x ∈ (cellsFrom 0 scope.names []).map (·.1) := by rw [nm]; exact List.mem_map.mpr ⟨_, hx, rfl⟩
    obtain ⟨p, hp, rfl⟩ := List.mem_map.mp this
    exact hcl p hp
  have cgt : ∀ (names : List (Str × NameKind)) (n : Nat) (acc : List (Str × Nat)) (lo : Nat), lo < n → (∀ p ∈ acc, lo < p.2) → ∀ p ∈ cellsFrom n names acc, lo < p.2 := by
    intro names
    induction names with
    | nil => intro n acc lo _ h; exact h
    | cons q r ih =>
      obtain ⟨y, k⟩ := q
      intro n acc lo hlo h
      unfold cellsFrom
      by_cases hk : (k == .cell) = true
      · rw [if_pos hk]
        refine ih (n + 1) _ lo (by omega) fun p hp => ?_
        rcases List.mem_cons.mp hp with rfl | hp
        · exact hlo
        · exact h p hp
      · rw [if_neg hk]; exact ih n acc lo hlo h
  have hfr := g.frame_in R
  exact {
    ok := g.ok
    base := fun a o e => by
      unfold restOf
      rw [if_neg fun hf => by have := (R.apart a hf).1; rw [g.base a o e] at this; cases this]
      exact g.keep R a o e
    apart := fun a ha => by
      obtain ⟨env, he, hf⟩ := List.mem_filterMap.mp ha
      obtain ⟨_, L, o, hL, _, _, hb⟩ := hfr env he
      rw [hL] at hf; cases hf; exact hb
    K := g.K
    top := g.top
    kind := hk
    globals := rfl
    celled := fun x hx => cellsFrom_some _ _ _ (.inl hx)
    cellk := cellk
    cellnd := ⟨cellsFrom_lt _ _ _ (fun _ h => nomatch h) (by simp), by show ((cellsFrom (s.heap.objs.size + 1) scope.names []).map (·.1)).Nodup; rw [← nm]; exact hnd, fun x k hx => by
      have := cgt scope.names (s.heap.objs.size + 1) [] s.heap.objs.size (by omega) (fun _ h => nomatch h) (x, k) hx
      show k ≠ s.heap.objs.size
      intro q; subst q; exact Nat.lt_irrefl _ this⟩
    builtins := rfl
    room := by
      have := g.room
      show f.A.depth + 1 + 2 * n < recursionLimit
      omega
    units := by
      have := g.units
      show f.A.units + 3 + 40 * n < cLine
      omega
    frames := by show f.A.frames.map _ = _; rw [g.frames]; rfl
    topk := ⟨hk, rfl, rfl, hgen, hco⟩
    low := g.low
    slots := fun a ha => by
      obtain ⟨env, he, hf⟩ := List.mem_filterMap.mp ha
      rcases List.mem_cons.mp he with rfl | he
      · left; cases hf; rfl
      · right; exact List.mem_filterMap.mpr ⟨env, he, hf⟩
    topL := ⟨s.heap.objs.size, rfl, .inl rfl, by
      cases e : f.base.get? s.heap.objs.size with
      | none => exact e
      | some o => exact absurd (Heap.lt_size (g.keep R _ _ e)) (Nat.lt_irrefl _)⟩
    slotIn := fun a ha => by
      obtain ⟨env, he, hf⟩ := List.mem_filterMap.mp ha
      obtain ⟨_, L, o, hL, hr, _, _⟩ := hfr env he
      rw [hL] at hf; cases hf; exact ⟨o, hr⟩
    home := rfl
    outer := fun env he => by
      obtain ⟨h1, L, o, hL, hr, hd, hb⟩ := hfr env he
      exact ⟨h1, L, o, hL, List.mem_filterMap.mpr ⟨env, he, hL⟩, hr, hd⟩ }
theorem newFm_rel {c : Cx} {n : Nat} {f : Fm} {fr : Nat → Option Obj} (g : Good c n f fr) {ρ : Lo} {σ : Hp} {z s s' : Shared} (R : c.Rel f ρ σ fr z s) {qual : Str} {scope : Scope} {fa : Nat} {cd : Value} {ps : List Str} {as : List MV} {us : List Value} (hs : scopeOk scope ps = true)
    (is : All2 MV.Is as us) (x : InCallC s s.heap.objs.size (bindL (envOfC qual scope s.heap.objs.size fa cd).kindOf (ps.zip us) fun _ => none) (cellsFrom (s.heap.objs.size + 1) scope.names []) (bindC (envOfC qual scope s.heap.objs.size fa cd).kindOf (ps.zip us) fun _ => none) s') :
    c.Rel (newFm f qual scope s.heap.objs.size fa cd) (bindLo ps as fun _ => none) σ (restOf σ s) z s' := by
  obtain ⟨hk, hco, hgen, hps, hcl, hnd⟩ := scopeOk_of hs
  obtain ⟨h₁, tk, rfl⟩ := x.toInCall.same
  have hk₁ := x.toInCall.keep
  have cell : ∀ y k, (y, k) ∈ cellsFrom (s.heap.objs.size + 1) scope.names [] → (Heap.IsCell h₁ k (bindC (envOfC qual scope s.heap.objs.size fa cd).kindOf (ps.zip us) (fun _ => none) y)) ∧ s.heap.objs.size < k := fun y k hy =>
    ⟨x.cell y k (lookup_of_mem_nodup (cellsFrom_names scope.names 0 (s.heap.objs.size + 1) [] [] rfl ▸ hnd) hy), x.above y k hy⟩
  refine ⟨R.same, fun a o e => ?_, fun a t mo e => (R.objs a t mo e).keeps hk₁, R.wf, fun a hf => ⟨?_, ?_, fun y k hy => ?_⟩, ⟨_, x.toInCall.ns, fun y hy => bindLo_local hy is trivial⟩, fun y k hy => ?_, ⟨?_, fun y k hy => ?_⟩, R.kl⟩
  · unfold restOf at e
    split at e
    · cases e
    · exact ⟨o.slots, hk₁ _ _ e, fun _ => rfl⟩
  · unfold restOf; rw [if_pos hf]
  · exact Nat.ne_of_lt (R.foot_lt hf)
  · have := (cell y k hy).2
    have h2 := R.foot_lt hf
    omega
  · obtain ⟨⟨o, ho, hd⟩, _⟩ := cell y k hy
    refine ⟨o, _, ho, hd, bindLo_cell (fun q => ?_) is trivial⟩
    have nm := cellsFrom_names scope.names 0 (s.heap.objs.size + 1) [] [] rfl
    have : y ∈ (cellsFrom 0 scope.names []).map (·.1) := by rw [nm]; exact List.mem_map.mpr ⟨_, hy, rfl⟩
    obtain ⟨p, hp, rfl⟩ := List.mem_map.mp this
    exact hcl p hp q
  · show restOf σ s s.heap.objs.size = none
    unfold restOf
    split
    · rfl
    · cases e : s.heap.get? s.heap.objs.size with
      | none => rfl
      | some o => exact absurd (Heap.lt_size e) (Nat.lt_irrefl _)
  · refine ⟨?_, fun q => ?_⟩
    · unfold restOf
      split
      · rfl
      · cases e : s.heap.get? k with
        | none => rfl
        | some o => exact absurd (Nat.lt_trans (cell y k hy).2 (Heap.lt_size e)) (Nat.lt_irrefl _)
    · have h3 := (cell y k hy).2
      rw [show k = s.heap.objs.size from q] at h3
      exact Nat.lt_irrefl _ h3
def WFn (c : Cx) (i : Ix) (a : Nat) (as : List MV) (ρ : Lo) (Q : MV → Hp → Prop) (X : EX) (σ : Hp) : Prop :=
  ∀ us, All2 MV.Is as us → ∀ f fr z s, f.env.scope = i.sc → (i.hn = true → f.A.handled = none) → Good c i.n f fr → c.Rel f ρ σ fr z s →
    codeAny c.M f.A (.call (.ref a) ⟨us, []⟩) (fun r s' => match r with
      | .ok (.ret v) => ∃ m σ', MV.Is m v ∧ c.Rel f ρ σ' fr z s' ∧ Q m σ'
      | .ok _ => False
      | .error e => XPost c f fr z (X.at ρ) e s') s
theorem WCall.of_fn {c : Cx} {i : Ix} {a : Nat} {as : List MV} {ρ : Lo} {Q : MV → Hp → Prop} {X : EX} {σ : Hp} (h : WFn c i a as ρ Q X σ) : WCall c i (.ref a) as ρ Q X σ := fun v us iv iu f fr z s hsc hh g R => by
  cases iv
  refine wpAny_call (codeAny_mono (h us iu f fr z s hsc hh g R) fun r s' q => ?_)
  rcases r with e | (_ | _ | _ | v) <;> exact q
theorem WFn.mono {c : Cx} {i : Ix} {a : Nat} {as : List MV} {ρ : Lo} {Q Q' : MV → Hp → Prop} {X : EX} {σ : Hp} (h : WFn c i a as ρ Q X σ) (k : ∀ m σ', Q m σ' → Q' m σ') : WFn c i a as ρ Q' X σ := fun us iu f fr z s hsc hh g R => by
  refine codeAny_mono (h us iu f fr z s hsc hh g R) fun r s' q => ?_
  rcases r with e | (_ | _ | _ | v)
  · exact q
  · exact q
  · exact q
  · exact q
  · obtain ⟨m, σ', h1, h2, h3⟩ := q; exact ⟨m, σ', h1, h2, k m σ' h3⟩
theorem WFn.fn {c : Cx} {n : Nat} {hn : Bool} {sc : Scope} {a : Nat} {ps : List Str} {body : List Stmt} {scope : Scope} (F : FnAt c a ps body scope) {as : List MV} {ρ : Lo} {Q : MV → Hp → Prop} {X : EX} {σ : Hp} (hl : as.length = ps.length)
    (h : WSs c ⟨n, hn, scope⟩ body (bindLo ps as fun _ => none) (fun m _ σ' => Q m.val σ') noSX σ) : WFn c ⟨n + 1, hn, sc⟩ a as ρ Q X σ := fun us iu f fr z s hsc hh g R => by
  obtain ⟨⟨oc, od, osl, name, qual, params, dV, kV, doc, pm, an, cdv, ct, ho, hcd, hb⟩, hs⟩ := F
  obtain ⟨hk, hco, hgen, hps, hcl, hnd⟩ := scopeOk_of hs
  have hroom : f.A.depth < recursionLimit := by have := g.room; omega
  refine codeAny_call_function hroom (g.inK R _ _ ho) rfl hco hgen rfl (codeRec_of (g.inK R) hcd) ?_
  rw [hb us (by rw [← iu.length, hl])]
  refine wpAny_pure ?_
  refine wpAny_newFunctionEnv_cells hk (fun x hx => ?_) fun env' he s' x => ?_
  · have hx' := hps x.1 (List.of_mem_zip hx).1
    exact hx'.imp id fun q => ⟨q, cellsFrom_some _ _ _ (.inl q)⟩
  · subst he
    refine ⟨(g.at R).nolimit.keeps x.toInCall.keep, codeAny_func ?_⟩
    have G' := newFm_good g R (qual := qual) (fa := a) (cd := cdv) hs
    have R' := newFm_rel g R (qual := qual) (fa := a) (cd := cdv) hs iu x
    refine wuse6 (h (newFm f qual scope s.heap.objs.size a cdv) _ z s' rfl (fun q => hh q) G' R') (fun fl s'' m ρ' σ' is R'' q => ?_) fun e s'' ⟨_, _, _, _, _, _, _, q⟩ => q.elim
    refine ⟨m.val, σ', ?_, R.back (f' := newFm f qual scope s.heap.objs.size a cdv) g rfl rfl R'', q⟩
    cases m with
    | ret v => obtain ⟨u, rfl, is⟩ := is; exact is
    | next => cases is; rfl
    | brk => cases is; rfl
    | cont => cases is; rfl
end Mine
open PySem PySem.W PyProof.Rows
namespace Mine
def allNews (h : Heap) (L : Nat) : List (Nat × Obj) := (List.range h.objs.size).filterMap fun a => if a = L then none else (h.get? a).map fun o => (a, o)
theorem mem_allNews {h : Heap} {L a : Nat} {o : Obj} : (a, o) ∈ allNews h L ↔ a ≠ L ∧ h.get? a = some o := by
  unfold allNews
  rw [List.mem_filterMap]
  constructor
  · rintro ⟨b, _, hb⟩
    split at hb
    · cases hb
    · rename_i hne
      obtain ⟨o', ho', e⟩ := Option.map_eq_some_iff.mp hb
      cases e
      exact ⟨hne, ho'⟩
  · rintro ⟨hne, ho⟩
    exact ⟨a, List.mem_range.mpr (Heap.lt_size ho), by rw [if_neg hne, ho]; rfl⟩
theorem empty_get (a : Nat) : ({} : Heap).get? a = none := by
  cases e : ({} : Heap).get? a with
  | none => rfl
  | some o => exact absurd (Heap.lt_size e) (Nat.not_lt_zero _)
theorem news_all (h : Heap) (L : Nat) : News {} L h (allNews h L) := fun p hp => by
  obtain ⟨a, o⟩ := p
  obtain ⟨h1, h2⟩ := mem_allNews.mp hp
  exact ⟨h2, h1, empty_get a⟩
theorem fr_all {h : Heap} {L : Nat} {m : Str → Option Value} (hn : h.Ns L m) : Fr {} L h m := ⟨hn, fun b o e => (by rw [empty_get] at e; cases e), Nat.zero_le _⟩
theorem allNews_split {h : Heap} {L d : Nat} {o : Obj} (ho : h.get? d = some o) (hd : d ≠ L) : ∃ pre post, allNews h L = pre ++ (d, o) :: post ∧ (∀ p ∈ pre, p.1 ≠ d) ∧ ∀ p ∈ post, p.1 ≠ d := by
  have nd : ∀ (l : List Nat), l.Nodup → ((l.filterMap fun a => if a = L then none else (h.get? a).map fun o => (a, o)).map (·.1)).Nodup := by
    intro l
    induction l with
    | nil => intro _; simp
    | cons b r ih =>
      intro hn
      simp only [List.nodup_cons] at hn
      rw [List.filterMap_cons]
      split
      · exact ih hn.2
      · rename_i p hp
        rw [List.map_cons, List.nodup_cons]
        refine ⟨fun hm => hn.1 ?_, ih hn.2⟩
        split at hp
        · cases hp
        · obtain ⟨o', _, e⟩ := Option.map_eq_some_iff.mp hp
          cases e
          obtain ⟨q, hq, e2⟩ := List.mem_map.mp hm
          obtain ⟨b', hb', hq'⟩ := List.mem_filterMap.mp hq
          split at hq'
          · cases hq'
          · obtain ⟨o2, _, e3⟩ := Option.map_eq_some_iff.mp hq'
            cases e3
            dsimp only at e2
            subst e2
            exact hb'
  obtain ⟨pre, post, e⟩ := List.append_of_mem (mem_allNews.mpr ⟨hd, ho⟩)
  have hn := nd (List.range h.objs.size) List.nodup_range
  change ((allNews h L).map (·.1)).Nodup at hn
  rw [e, List.map_append, List.map_cons, List.nodup_append] at hn
  obtain ⟨_, h2, h3⟩ := hn
  rw [List.nodup_cons] at h2
  refine ⟨pre, post, e, fun p hp q => ?_, fun p hp q => ?_⟩
  · exact h3 p.1 (List.mem_map_of_mem hp) d (.head _) q
  · exact h2.1 (List.mem_map.mpr ⟨p, hp, q⟩)
theorem ns_unique {h : Heap} {L : Nat} {m m' : Str → Option Value} (a : h.Ns L m) (b : h.Ns L m') : m = m' := by
  obtain ⟨o, es, ep, h1, h2, _, h3⟩ := a
  obtain ⟨o', es', ep', h1', h2', _, h3'⟩ := b
  rw [h1] at h1'
  cases h1'
  rw [h2] at h2'
  cases h2'
  funext x
  rw [← h3 x, ← h3' x]
theorem Kept.of_news {L : Nat} {h h' : Heap} {m : Str → Option Value} {D : Nat → Prop} {news : List (Nat × Obj)} (hn : h.Ns L m) (F' : Fr {} L h' m) (N' : News {} L h' news) (k : ∀ p ∈ allNews h L, ¬ D p.1 → p ∈ news) : Kept L D h h' :=
  ⟨fun a o nD nL e => (N' _ (k (a, o) (mem_allNews.mpr ⟨nL, e⟩) nD)).1, fun m' hm => by rw [ns_unique hm hn]; exact F'.ns⟩
theorem fields_get {P : Params} {fs : List (Str × MV)} {es : List DictEntry} (h : FieldsAre P fs es) {x : Str} {v : MV} (hv : fs.lookup x = some v) : ∃ u, getL x es = some (some u) ∧ v.Is u := by
  unfold getL
  induction h with
  | nil => cases hv
  | @cons p e l m r _ ih =>
    obtain ⟨y, mv⟩ := p
    obtain ⟨_, ⟨t, hk⟩, is⟩ := r
    rw [List.lookup_cons] at hv
    have hk' : e.key.isStr x = (y == x) := by rw [hk]; rfl
    cases q : (x == y) with
    | true =>
      rw [q] at hv; cases hv
      rw [List.find?_cons, hk', show (y == x) = true from by rw [beq_iff_eq] at q ⊢; exact q.symm]
      exact ⟨_, rfl, is⟩
    | false =>
      rw [q] at hv
      obtain ⟨u, h1, h2⟩ := ih hv
      refine ⟨u, ?_, h2⟩
      rw [List.find?_cons, hk', show (y == x) = false from by rw [beq_eq_false_iff_ne] at q ⊢; exact fun e => q e.symm]
      split at h1
      · rename_i en he; rw [he]; exact h1
      · rename_i he
        split at h1 <;> cases h1
theorem fields_none {P : Params} {fs : List (Str × MV)} {es : List DictEntry} (h : FieldsAre P fs es) {x : Str} (hv : fs.lookup x = none) : getL x es = some none := by
  have key : es.find? (·.key.isStr x) = none ∧ es.any (·.refKey) = false := by
    induction h with
    | nil => exact ⟨rfl, rfl⟩
    | @cons p e l m r _ ih =>
      obtain ⟨y, mv⟩ := p
      obtain ⟨_, ⟨t, hk⟩, is⟩ := r
      rw [List.lookup_cons] at hv
      cases q : (x == y) with
      | true => rw [q] at hv; cases hv
      | false =>
        rw [q] at hv
        obtain ⟨h1, h2⟩ := ih hv
        refine ⟨?_, ?_⟩
        · have hk' : e.key.isStr x = (y == x) := by rw [hk]; rfl
          rw [List.find?_cons, hk', show (y == x) = false from by rw [beq_eq_false_iff_ne] at q ⊢; exact fun e => q e.symm]; exact h1
        · rw [List.any_cons, h2, Bool.or_false]
          unfold DictEntry.refKey
          rw [hk]
  unfold getL
  rw [key.1, key.2]; rfl
def putF (x : Str) (v : MV) : List (Str × MV) → List (Str × MV)
  | [] => [(x, v)]
  | (y, u) :: r => if y = x then (y, v) :: r else (y, u) :: putF x v r
theorem fields_put {P : Params} {fs : List (Str × MV)} {es : List DictEntry} (h : FieldsAre P fs es) {x : Str} {v : MV} {u : Value} {tk : Tok} (is : v.Is u) : FieldsAre P (putF x v fs) (putL x (PyData.keyHash P x) (.str x tk) u es) := by
  induction h with
  | nil => exact .cons ⟨rfl, ⟨tk, rfl⟩, is⟩ .nil
  | @cons p e l m r rs ih =>
    obtain ⟨y, mv⟩ := p
    have hk' : e.key.isStr x = (y == x) := by obtain ⟨_, ⟨t, hk⟩, _⟩ := r; rw [hk]; rfl
    unfold putF putL
    rw [hk']
    by_cases q : y = x
    · rw [if_pos q, if_pos (beq_iff_eq.mpr q)]
      exact .cons ⟨r.1, r.2.1, is⟩ rs
    · rw [if_neg q, if_neg (fun z => q (beq_iff_eq.mp z))]
      exact .cons r ih
def MV.plain : MV → Bool
  | .con _ => false
  | _ => true
theorem MV.handed {v : MV} {u : Value} (hp : v.plain = true) (is : v.Is u) : handedIn u = true := by
  cases v with
  | none => cases is; rfl
  | bool b => cases is; rfl
  | int i => obtain ⟨t, rfl⟩ := is; rfl
  | str x => obtain ⟨t, rfl⟩ := is; rfl
  | ref a => cases is; rfl
  | con c => cases hp
section
variable {c : Cx} {i : Ix} {ρ : Lo} {σ : Hp} {X : EX}
theorem Rel.inst {f : Fm} {fr : Nat → Option Obj} {z s : Shared} (R : c.Rel f ρ σ fr z s) {a t C : Nat} {fs : List (Str × MV)} (e : σ a = some (t, .inst C fs)) :
    ∃ d es n, a = d + 1 ∧ s.heap.get? a = some (instObj C d) ∧ s.heap.get? d = some (dictOf es n) ∧ FieldsAre c.w.params fs es ∧ InstAt s.heap a (instObj C d) C (some (dictOf es n)) := by
  obtain ⟨d, es, n, h1, h2, h3, h4⟩ := R.objs a t _ e
  exact ⟨d, es, n, h1, h2, h3, h4, h2, rfl, rfl, h3⟩
theorem WGet.inst {a t C name fs v} {Q : MV → Hp → Prop} (e : σ a = some (t, .inst C fs)) (hf : c.fld C name = true) (hv : fs.lookup name = some v) (hp : v.plain = true) (h : Q v σ) : WGet c i (.ref a) name ρ Q X σ := fun u iu f fr z s hsc hh g R => by
  cases iu
  obtain ⟨d, es, n, _, _, _, hfs, I⟩ := Rel.inst R e
  obtain ⟨u, hu, is⟩ := fields_get hfs hv
  obtain ⟨h1, h2, h3, _⟩ := g.ok.fld C name hf
  exact get_value (g.inK R) I (plainGet_of h1).1 (findObj_own h2 h3 rfl (by rw [lookIn_dict]; exact hu)) (MV.handed hp is) ⟨v, σ, is, R.toks _, h⟩
theorem WM.inst {a t C name fs fa} {Q : MV × List MV → Hp → Prop} (e : σ a = some (t, .inst C fs)) (hm : c.meth C name = some fa) (hv : fs.lookup name = none) (h : Q (.ref fa, [.ref a]) σ) : WM c i (.ref a) name ρ Q X σ := fun u pl iu f fr z s hsc hh g R => by
  cases iu
  obtain ⟨d, es, n, _, _, _, hfs, I⟩ := Rel.inst R e
  obtain ⟨h1, h2, h3, _⟩ := g.ok.meth C name fa hm
  refine method_fn (g.inK R) I (plainGet_of h1).1 (plainGet_of h1).2 h2 (beq_iff_eq.mp h3) ?_ ⟨(.ref fa, [.ref a]), σ, ⟨rfl, .cons rfl .nil⟩, R, h⟩
  show (lookIn name (dictOf es n)).map _ = _
  rw [lookIn_dict, fields_none hfs hv]; rfl
theorem WSet.inst {a t C name fs v} {Q : Unit → Hp → Prop} (e : σ a = some (t, .inst C fs)) (hf : c.fld C name = true) (hl : fs.length < 900) (h : Q () (σ.put a t (.inst C (putF name v fs)))) : WSet c i (.ref a) name v ρ Q X σ := fun u w iu iw f fr z s hsc hh g R => by
  cases iu
  obtain ⟨d, es, n, rfl, hx, hd, hfs, I⟩ := Rel.inst R e
  obtain ⟨h1, h2, h3, h4, h5, h6⟩ := g.ok.fld C name hf
  obtain ⟨m, hn, hm⟩ := R.ns
  have hdL : d ≠ f.env.locals := (R.apart d (.inr ⟨_, _, _, e⟩)).2.1
  obtain ⟨pre, post, ea, ha, hb⟩ := allNews_split hd hdL
  have N := news_all s.heap f.env.locals
  rw [ea] at N
  have len : ∀ (es : List DictEntry) (tk : Tok), (putL name (PyData.keyHash c.w.params name) (.str name tk) w es).length ≤ es.length + 1 := by
    intro es tk
    induction es with
    | nil => simp [putL]
    | cons e r ih =>
      unfold putL
      split
      · simp
      · simp only [List.length_cons]; omega
  have el : es.length = fs.length := (All2.length hfs).symm
  refine set_plain (g.inK R) I h4 (osa_dict (s := { s with toks := s.toks + 1 }) (fr_all hn) N (g.inK (R.toks _)) I rfl h5 h6 h2 ?_ ha hb (putName_dict _ _ _ _ _ _) rfl ?_ fun h' F' N' => ?_)
  · show (lookIn name (dictOf es n)).isSome = true
    rw [lookIn_dict]
    cases q : fs.lookup name with
    | none => rw [fields_none hfs q]; rfl
    | some v' => obtain ⟨u, hu, _⟩ := fields_get hfs q; rw [hu]; rfl
  · have := len es (s.toks + 1); show _ ≤ 1000; have h0 : ({ s with toks := s.toks + 1 } : Shared).toks = s.toks + 1 := rfl; rw [h0]; omega
  · have K' : Kept f.L (· = d) s.heap h' := Kept.of_news hn F' N' fun p hp nd => by
      rw [ea] at hp
      rcases List.mem_append.mp hp with q | q
      · exact List.mem_append_left _ q
      · rcases List.mem_cons.mp q with rfl | q
        · exact absurd rfl nd
        · exact List.mem_append_right _ (.tail _ q)
    refine ⟨(), _, rfl, R.updI e K' ⟨d, _, _, rfl, ?_, (N' (d, _) (List.mem_append_right _ (.head _))).1, fields_put hfs iw⟩, h⟩
    exact K'.1 _ _ (by show ¬ (d + 1 = d); omega) (R.neL e) hx
end
end Mine
open PySem PySem.W PyProof.Rows
namespace Mine
theorem All2.zero {α β : Type} {R : α → β → Prop} {us : List β} (h : All2 R [] us) : us = [] := by cases h; rfl
theorem All2.one {α β : Type} {R : α → β → Prop} {a : α} {us : List β} (h : All2 R [a] us) : ∃ u, us = [u] ∧ R a u := by
  cases h with | cons r h => cases h; exact ⟨_, rfl, r⟩
theorem All2.two {α β : Type} {R : α → β → Prop} {a b : α} {us : List β} (h : All2 R [a, b] us) : ∃ u v, us = [u, v] ∧ R a u ∧ R b v := by
  cases h with | cons r h => obtain ⟨v, rfl, r'⟩ := h.one; exact ⟨_, _, rfl, r, r'⟩
theorem All2.three {α β : Type} {R : α → β → Prop} {a b c : α} {us : List β} (h : All2 R [a, b, c] us) : ∃ u v w, us = [u, v, w] ∧ R a u ∧ R b v ∧ R c w := by
  cases h with | cons r h => obtain ⟨v, w, rfl, r', r''⟩ := h.two; exact ⟨_, _, _, rfl, r, r', r''⟩
section
variable {c : Cx} {i : Ix} {ρ : Lo} {σ : Hp} {X : EX}
-- truth
theorem WTr.none {Q : Bool → Hp → Prop} (h : Q false σ) : WTr c i .none ρ Q X σ := fun v is f fr z s a b g R => by cases is; dsimp only; (with_reducible refine truthy_none ?_); exact ⟨_, σ, rfl, R, h⟩
theorem WTr.bool {b} {Q : Bool → Hp → Prop} (h : Q b σ) : WTr c i (.bool b) ρ Q X σ := fun v is f fr z s _ _ g R => by cases is; dsimp only; (with_reducible refine wpAny_truthy_bool ?_); exact ⟨_, σ, rfl, R, h⟩
theorem WTr.int {n} {Q : Bool → Hp → Prop} (h : Q (n != 0) σ) : WTr c i (.int n) ρ Q X σ := fun v is f fr z s _ _ g R => by obtain ⟨t, rfl⟩ := is; dsimp only; (with_reducible refine truthy_int ?_); exact ⟨_, σ, rfl, R, h⟩
theorem WU.not {m} {Q : MV → Hp → Prop} (h : WTr c i m ρ (fun k σ₁ => Q (.bool (!k)) σ₁) X σ) : WU c i .Not m ρ Q X σ := fun v is f fr z s a b g R =>
  not_of (wuse (h v is f fr z s a b g R) (fun k s' k' σ' e R' q => by subst e; exact ⟨.bool _, σ', rfl, R', q⟩) fun _ _ x => x)
theorem WU.neg {n} {Q : MV → Hp → Prop} (h : Q (.int (-n)) σ) : WU c i .USub (.int n) ρ Q X σ := fun v is f fr z s a b g R => by
  obtain ⟨t, rfl⟩ := is; dsimp only; (with_reducible refine neg_int ?_); exact ⟨.int (-n), σ, ⟨_, rfl⟩, R.toks _, h⟩
-- ints
theorem WB.add {m n} {Q : MV → Hp → Prop} (h : Q (.int (m + n)) σ) : WB c i .Add (.int m) (.int n) ρ Q X σ := fun v u iv iu f fr z s _ _ g R => by
  obtain ⟨t, rfl⟩ := iv; obtain ⟨t', rfl⟩ := iu; dsimp only; (with_reducible refine add_int ?_); exact ⟨.int (m + n), σ, ⟨_, rfl⟩, R.toks _, h⟩
theorem WI.add {m n} {Q : MV → Hp → Prop} (h : Q (.int (m + n)) σ) : WI c i .Add (.int m) (.int n) ρ Q X σ := fun v u iv iu f fr z s _ _ g R => by
  obtain ⟨t, rfl⟩ := iv; obtain ⟨t', rfl⟩ := iu; dsimp only; (with_reducible refine iadd_int ?_); exact ⟨.int (m + n), σ, ⟨_, rfl⟩, R.toks _, h⟩
theorem WB.sub {m n} {Q : MV → Hp → Prop} (h : Q (.int (m - n)) σ) : WB c i .Sub (.int m) (.int n) ρ Q X σ := fun v u iv iu f fr z s _ _ g R => by
  obtain ⟨t, rfl⟩ := iv; obtain ⟨t', rfl⟩ := iu; dsimp only; (with_reducible refine sub_int ?_); exact ⟨.int (m - n), σ, ⟨_, rfl⟩, R.toks _, h⟩
theorem WB.mul {m n} {Q : MV → Hp → Prop} (hm : IntMulOk m n) (h : Q (.int (m * n)) σ) : WB c i .Mult (.int m) (.int n) ρ Q X σ := fun v u iv iu f fr z s _ _ g R => by
  obtain ⟨t, rfl⟩ := iv; obtain ⟨t', rfl⟩ := iu; exact mul_int ⟨.int (m * n), σ, ⟨_, rfl⟩, R.toks _, h⟩ hm
theorem WB.div {m n} {Q : MV → Hp → Prop} (h0 : n ≠ 0) (h1 : n.natAbs < 1073741824) (h : Q (.int (m.fdiv n)) σ) : WB c i .FloorDiv (.int m) (.int n) ρ Q X σ := fun v u iv iu f fr z s _ _ g R => by
  obtain ⟨t, rfl⟩ := iv; obtain ⟨t', rfl⟩ := iu; exact floordiv_int h0 ⟨.int (m.fdiv n), σ, ⟨_, rfl⟩, R.toks _, h⟩ (.inl (PyProof.noPylong_small h1))
theorem WB.mod {m n} {Q : MV → Hp → Prop} (h0 : n ≠ 0) (h : Q (.int (m.fmod n)) σ) : WB c i .Mod (.int m) (.int n) ρ Q X σ := fun v u iv iu f fr z s _ _ g R => by
  obtain ⟨t, rfl⟩ := iv; obtain ⟨t', rfl⟩ := iu; exact PyProof.Rows.mod_int h0 ⟨.int (m.fmod n), σ, ⟨_, rfl⟩, R.toks _, h⟩
theorem WC.lt {m n} {Q : MV → Hp → Prop} (h : Q (.bool (decide (m < n))) σ) : WC c i .Lt (.int m) (.int n) ρ Q X σ := fun v u iv iu f fr z s _ _ g R => by
  obtain ⟨t, rfl⟩ := iv; obtain ⟨t', rfl⟩ := iu; dsimp only; (with_reducible refine lt_int ?_); exact ⟨.bool _, σ, rfl, R, h⟩
theorem WC.le {m n} {Q : MV → Hp → Prop} (h : Q (.bool (decide (m ≤ n))) σ) : WC c i .LtE (.int m) (.int n) ρ Q X σ := fun v u iv iu f fr z s _ _ g R => by
  obtain ⟨t, rfl⟩ := iv; obtain ⟨t', rfl⟩ := iu; dsimp only; (with_reducible refine PyProof.Rows.le_int ?_); exact ⟨.bool _, σ, rfl, R, h⟩
theorem WC.gt {m n} {Q : MV → Hp → Prop} (h : Q (.bool (decide (n < m))) σ) : WC c i .Gt (.int m) (.int n) ρ Q X σ := fun v u iv iu f fr z s _ _ g R => by
  obtain ⟨t, rfl⟩ := iv; obtain ⟨t', rfl⟩ := iu; dsimp only; (with_reducible refine PyProof.Rows.gt_int ?_); exact ⟨.bool _, σ, rfl, R, h⟩
theorem WC.ge {m n} {Q : MV → Hp → Prop} (h : Q (.bool (decide (n ≤ m))) σ) : WC c i .GtE (.int m) (.int n) ρ Q X σ := fun v u iv iu f fr z s _ _ g R => by
  obtain ⟨t, rfl⟩ := iv; obtain ⟨t', rfl⟩ := iu; dsimp only; (with_reducible refine PyProof.Rows.ge_int ?_); exact ⟨.bool _, σ, rfl, R, h⟩
theorem WC.eqI {m n} {Q : MV → Hp → Prop} (h : Q (.bool (m == n)) σ) : WC c i .Eq (.int m) (.int n) ρ Q X σ := fun v u iv iu f fr z s _ _ g R => by
  obtain ⟨t, rfl⟩ := iv; obtain ⟨t', rfl⟩ := iu; dsimp only; (with_reducible refine PyProof.Rows.eq_int ?_); exact ⟨.bool _, σ, rfl, R, h⟩
theorem WC.neI {m n} {Q : MV → Hp → Prop} (h : Q (.bool (m != n)) σ) : WC c i .NotEq (.int m) (.int n) ρ Q X σ := fun v u iv iu f fr z s _ _ g R => by
  obtain ⟨t, rfl⟩ := iv; obtain ⟨t', rfl⟩ := iu; dsimp only; (with_reducible refine PyProof.Rows.ne_int ?_); exact ⟨.bool _, σ, rfl, R, h⟩
theorem WC.eqS {x y} {Q : MV → Hp → Prop} (h : Q (.bool (x == y)) σ) : WC c i .Eq (.str x) (.str y) ρ Q X σ := fun v u iv iu f fr z s _ _ g R => by
  obtain ⟨t, rfl⟩ := iv; obtain ⟨t', rfl⟩ := iu; dsimp only; (with_reducible refine PyProof.Rows.eq_str ?_); exact ⟨.bool _, σ, rfl, R, h⟩
theorem WC.neS {x y} {Q : MV → Hp → Prop} (h : Q (.bool (x != y)) σ) : WC c i .NotEq (.str x) (.str y) ρ Q X σ := fun v u iv iu f fr z s _ _ g R => by
  obtain ⟨t, rfl⟩ := iv; obtain ⟨t', rfl⟩ := iu; dsimp only; (with_reducible refine PyProof.Rows.ne_str ?_); exact ⟨.bool _, σ, rfl, R, h⟩
theorem WC.eqB {x y} {Q : MV → Hp → Prop} (h : Q (.bool (x == y)) σ) : WC c i .Eq (.bool x) (.bool y) ρ Q X σ := fun v u iv iu f fr z s _ _ g R => by
  cases iv; cases iu; dsimp only; (with_reducible refine PyProof.Rows.eq_bool ?_); exact ⟨.bool _, σ, rfl, R, h⟩
theorem WC.neB {x y} {Q : MV → Hp → Prop} (h : Q (.bool (x != y)) σ) : WC c i .NotEq (.bool x) (.bool y) ρ Q X σ := fun v u iv iu f fr z s _ _ g R => by
  cases iv; cases iu; dsimp only; (with_reducible refine PyProof.Rows.ne_bool ?_); exact ⟨.bool _, σ, rfl, R, h⟩
theorem WC.neSN {x} {Q : MV → Hp → Prop} (h : Q (.bool true) σ) : WC c i .NotEq (.str x) .none ρ Q X σ := fun v u iv iu f fr z s _ _ g R => by
  obtain ⟨t, rfl⟩ := iv; cases iu; dsimp only; (with_reducible refine PySem.EqNone.ne_str_none ?_); exact ⟨.bool _, σ, rfl, R, h⟩
theorem WC.neNS {x} {Q : MV → Hp → Prop} (h : Q (.bool true) σ) : WC c i .NotEq .none (.str x) ρ Q X σ := fun v u iv iu f fr z s _ _ g R => by
  obtain ⟨t, rfl⟩ := iu; cases iv; dsimp only; (with_reducible refine PySem.EqNone.ne_none_str ?_); exact ⟨.bool _, σ, rfl, R, h⟩
theorem WC.neNN {Q : MV → Hp → Prop} (h : Q (.bool false) σ) : WC c i .NotEq .none .none ρ Q X σ := fun v u iv iu f fr z s _ _ g R => by
  cases iv; cases iu; dsimp only; (with_reducible refine PySem.EqNone.ne_none_none ?_); exact ⟨.bool _, σ, rfl, R, h⟩
def MV.isNone : MV → Bool
  | .none => true
  | _ => false
theorem isNone_of {m : MV} {v : Value} (hc : ∀ k, m ≠ .con k) (is : m.Is v) : (v == .none) = m.isNone := by
  cases m with
  | none => cases is; rfl
  | bool b => cases is; rfl
  | int n => obtain ⟨t, rfl⟩ := is; rfl
  | str x => obtain ⟨t, rfl⟩ := is; rfl
  | ref a => cases is; rfl
  | con k => exact absurd rfl (hc k)
theorem WC.isNone {m} {Q : MV → Hp → Prop} (hp : m.plain = true) (h : Q (.bool m.isNone) σ) : WC c i .Is m .none ρ Q X σ := fun v u iv iu f fr z s _ _ g R => by
  cases iu; refine is_none_gen ⟨.bool m.isNone, σ, ?_, R, h⟩; rw [isNone_of (by intro k e; subst e; cases hp) iv]; rfl
theorem WC.isNotNone {m} {Q : MV → Hp → Prop} (hp : m.plain = true) (h : Q (.bool (!m.isNone)) σ) : WC c i .IsNot m .none ρ Q X σ := fun v u iv iu f fr z s _ _ g R => by
  cases iu; refine isnot_none_gen ⟨.bool (!m.isNone), σ, ?_, R, h⟩; rw [isNone_of (by intro k e; subst e; cases hp) iv]; rfl
theorem WC.isB {x y} {Q : MV → Hp → Prop} (h : Q (.bool (x == y)) σ) : WC c i .Is (.bool x) (.bool y) ρ Q X σ := fun v u iv iu f fr z s _ _ g R => by
  cases iv; cases iu; dsimp only; (with_reducible refine is_bool ?_); exact ⟨.bool _, σ, rfl, R, h⟩
theorem WC.isNotB {x y} {Q : MV → Hp → Prop} (h : Q (.bool (x != y)) σ) : WC c i .IsNot (.bool x) (.bool y) ρ Q X σ := fun v u iv iu f fr z s _ _ g R => by
  cases iv; cases iu; dsimp only; (with_reducible refine isnot_bool ?_); exact ⟨.bool _, σ, rfl, R, h⟩
theorem WB.addS {x y} {Q : MV → Hp → Prop} (hl : x.length + y.length ≤ sizeLine) (h : Q (.str (x ++ y)) σ) : WB c i .Add (.str x) (.str y) ρ Q X σ := fun v u iv iu f fr z s _ _ g R => by
  obtain ⟨t, rfl⟩ := iv; obtain ⟨t', rfl⟩ := iu; exact PyProof.Rows.add_str (fun t'' tk => ⟨.str (x ++ y), σ, ⟨_, rfl⟩, R.toks _, h⟩) hl
-- what a thing is
inductive KindOf (σ : Hp) : MV → Value → Prop
  | none : KindOf σ .none (.type "NoneType")
  | bool {b} : KindOf σ (.bool b) (.type "bool")
  | int {n} : KindOf σ (.int n) (.type "int")
  | str {x} : KindOf σ (.str x) (.type "str")
  | list {a t xs} : σ a = some (t, .list xs) → KindOf σ (.ref a) (.type "list")
  | tuple {a t xs} : σ a = some (t, .tuple xs) → KindOf σ (.ref a) (.type "tuple")
theorem WCall.isinstance {m t cv b} {Q : MV → Hp → Prop} (k : KindOf σ m t) (e : kitOne c.K t cv = some b) (h : Q (.bool b) σ) : WCall c i (.con (.builtin "isinstance")) [m, .con cv] ρ Q X σ := fun v us iv iu f fr z s _ _ g R => by
  cases iv
  obtain ⟨u1, u2, rfl, i1, i2⟩ := iu.two
  cases i2
  have fin : ∀ tk, (fun (a : Value) s' => ∃ m σ', MV.Is m a ∧ c.Rel f ρ σ' fr z s' ∧ Q m σ') (.bool b) { s with toks := tk } := fun tk => ⟨.bool b, σ, rfl, R.toks _, h⟩
  cases k with
  | none => cases i1; exact kia_one kitx_none (g.inK R) trivial e (by intro q; cases q) fin
  | bool => cases i1; exact kia_one kitx_bool (g.inK R) trivial e (by intro q; cases q) fin
  | int => obtain ⟨t, rfl⟩ := i1; exact kia_one kitx_int (g.inK R) trivial e (by intro q; cases q) fin
  | str => obtain ⟨t, rfl⟩ := i1; exact kia_one kitx_str (g.inK R) trivial e (by intro q; cases q) fin
  | list he => cases i1; obtain ⟨its, n, ho, _⟩ := R.objs _ _ _ he; exact kia_one kitx_list (g.inK R) ⟨_, ho, rfl⟩ e (by intro q; cases q) fin
  | tuple he => cases i1; obtain ⟨its, n, ho, _⟩ := R.objs _ _ _ he; exact kia_one kitx_tuple (g.inK R) ⟨_, ho, rfl⟩ e (by intro q; cases q) fin
end
end Mine
open PySem PySem.W PyProof.Rows
namespace Mine
def Fresh (σ : Hp) (b : Nat) : Prop := ∀ a p, σ a = some p → a < b
theorem Rel.withA {c : Cx} {f : Fm} {A' : Around} {ρ : Lo} {σ : Hp} {fr : Nat → Option Obj} {z s : Shared} (R : c.Rel f ρ σ fr z s) : c.Rel { f with A := A' } ρ σ fr z s := ⟨R.same, R.keep, R.objs, R.wf, R.apart, R.ns, R.cel, R.frame, R.kl⟩
theorem Rel.ofA {c : Cx} {f : Fm} {A' : Around} {ρ : Lo} {σ : Hp} {fr : Nat → Option Obj} {z s : Shared} (R : c.Rel { f with A := A' } ρ σ fr z s) : c.Rel f ρ σ fr z s := ⟨R.same, R.keep, R.objs, R.wf, R.apart, R.ns, R.cel, R.frame, R.kl⟩
theorem XPost.ofA {c : Cx} {f : Fm} {A' : Around} {fr : Nat → Option Obj} {z : Shared} {X : SX} {v : Value} {s : Shared} (h : XPost c { f with A := A' } fr z X v s) : XPost c f fr z X v s := by
  obtain ⟨b, C, e, ρ', σ', h1, h2, h3⟩ := h
  refine ⟨b, C, e, ρ', σ', h1, ?_, h3⟩
  cases b with
  | true => obtain ⟨h, vs, r, q⟩ := h2; exact ⟨h, vs, r.ofA, q⟩
  | false => obtain ⟨h, t, vs, r, q⟩ := h2; exact ⟨h, t, vs, r.ofA, q⟩
section
variable {c : Cx} {n : Nat} {hn : Bool} {sc : Scope} {ρ : Lo} {σ : Hp} {X : EX}
theorem WFn.make {C fI : Nat} {as : List MV} {Q : MV → Hp → Prop} (t : Nat) (hi : c.init C = some fI)
    (h : ∀ b, Fresh σ b → σ b = none → WFn c ⟨n, hn, sc⟩ fI (.ref b :: as) ρ (fun r σ' => r = .none ∧ Q (.ref b) σ') X (σ.put b t (.inst C []))) : WFn c ⟨n + 1, hn, sc⟩ C as ρ Q X σ := fun us iu f fr z s hsc hh g R => by
  obtain ⟨h1, h2, h3, h4⟩ := g.ok.init C fI hi
  obtain ⟨hp, gens, d, tk, os⟩ := s
  refine make_core (makes_of (g.inK R) h1) (looks_findIn (g.inK R) h2) (fun self => bind_fn (g.inK R) self (beq_iff_eq.mp h3)) (.inl rfl) ?_
  have k : ∀ b o, hp.get? b = some o → ((hp.push emptyDict).push (instObj C hp.objs.size)).get? b = some o := fun b o e => Heap.get?_push_of_some _ (Heap.get?_push_of_some _ e)
  have hx : ((hp.push emptyDict).push (instObj C hp.objs.size)).get? (hp.objs.size + 1) = some (instObj C hp.objs.size) := by heap_get
  have hd : ((hp.push emptyDict).push (instObj C hp.objs.size)).get? hp.objs.size = some emptyDict := by heap_get
  have fresh : Fresh σ (hp.objs.size + 1) := fun a p e => Nat.lt_succ_of_lt (R.some_lt e)
  have R₁ : c.Rel f ρ (σ.put (hp.objs.size + 1) t (.inst C [])) fr z ⟨(hp.push emptyDict).push (instObj C hp.objs.size), gens, d, tk, os⟩ :=
    R.alloc (tk := tk) t (.of_grown k) (Nat.le_succ _) (fun _ => Nat.lt_succ_self _) ⟨hp.objs.size, [], 0, rfl, hx, hd, .nil⟩
  have G₁ : Good c n { f with A := f.A.under (.builtin "type.__call__" ⟨.ref C :: us, []⟩) } fr := by
    exact {
      ok := g.ok, base := g.base, apart := g.apart, K := g.K, top := g.top, kind := g.kind, globals := g.globals, celled := g.celled, cellk := g.cellk, cellnd := g.cellnd, builtins := g.builtins
      room := by have := g.room; show f.A.depth + 1 + 2 * n < recursionLimit; dsimp only at this; omega
      units := by have := g.units; show f.A.units + 1 + 40 * n < cLine; dsimp only at this; omega
      frames := g.frames, topk := g.topk, low := g.low, slots := g.slots, topL := g.topL, slotIn := g.slotIn, home := g.home, outer := g.outer }
  have key := h (hp.objs.size + 1) fresh (by
    cases e : σ (hp.objs.size + 1) with
    | none => rfl
    | some p => exact absurd (R.some_lt e) (by show ¬ (hp.objs.size + 1 < hp.objs.size); omega)) (.ref (hp.objs.size + 1) :: us) (.cons rfl iu) { f with A := f.A.under (.builtin "type.__call__" ⟨.ref C :: us, []⟩) } fr z _ hsc hh G₁ R₁.withA
  refine codeAny_mono key fun r s' q => ?_
  rcases r with e | (_ | _ | _ | v)
  · exact XPost.ofA q
  · exact q
  · exact q
  · exact q
  · obtain ⟨m, σ', is, R', rfl, hq⟩ := q
    cases is
    exact ⟨rfl, .ref (hp.objs.size + 1), σ', rfl, R'.ofA, hq⟩
end
end Mine
open PySem PySem.W PyProof.Rows
namespace Mine
section
variable {κ : Type} [DecidableEq κ]
def getK (es : List (κ × MV)) (k : κ) : Option MV := (es.find? fun p => decide (p.1 = k)).map (·.2)
def putK (es : List (κ × MV)) (k : κ) (v : MV) : List (κ × MV) := if es.any (fun p => decide (p.1 = k)) then es.map (fun p => if p.1 = k then (p.1, v) else p) else es ++ [(k, v)]
def delK (es : List (κ × MV)) (k : κ) : List (κ × MV) := es.filter fun p => decide (p.1 ≠ k)
abbrev PR (p : κ × MV) (q : κ × Value) : Prop := p.1 = q.1 ∧ p.2.Is q.2
theorem getK_some {es : List (κ × MV)} {kvs : List (κ × Value)} (h : All2 PR es kvs) {k : κ} {v : MV} (e : getK es k = some v) : ∃ u, valueAt kvs k = some u ∧ v.Is u := by
  unfold getK at e
  unfold valueAt
  induction h with
  | nil => cases e
  | @cons p q l m r _ ih =>
    rw [List.find?_cons] at e ⊢
    rw [← r.1]
    by_cases hk : p.1 = k
    · rw [decide_eq_true hk] at e ⊢; cases e; exact ⟨_, rfl, r.2⟩
    · rw [decide_eq_false hk] at e ⊢; exact ih e
theorem getK_none {es : List (κ × MV)} {kvs : List (κ × Value)} (h : All2 PR es kvs) {k : κ} (e : getK es k = none) : valueAt kvs k = none := by
  unfold getK at e
  unfold valueAt
  induction h with
  | nil => rfl
  | @cons p q l m r _ ih =>
    rw [List.find?_cons] at e ⊢
    rw [← r.1]
    by_cases hk : p.1 = k
    · rw [decide_eq_true hk] at e; cases e
    · rw [decide_eq_false hk] at e ⊢; exact ih e
theorem getK_isSome {es : List (κ × MV)} {kvs : List (κ × Value)} (h : All2 PR es kvs) (k : κ) : (valueAt kvs k).isSome = (getK es k).isSome := by
  cases e : getK es k with
  | none => rw [getK_none h e]; rfl
  | some v => obtain ⟨u, hu, _⟩ := getK_some h e; rw [hu]; rfl
theorem putK_all {es : List (κ × MV)} {kvs : List (κ × Value)} (h : All2 PR es kvs) {k : κ} {v : MV} {u : Value} (is : v.Is u) : All2 PR (putK es k v) (stored kvs k u) := by
  have an : es.any (fun p => decide (p.1 = k)) = kvs.any (fun p => decide (p.1 = k)) := by
    induction h with
    | nil => rfl
    | cons r _ ih => rw [List.any_cons, List.any_cons, ih, r.1]
  unfold putK stored
  rw [an]
  split
  · rename_i hh
    clear an hh
    induction h with
    | nil => exact .nil
    | @cons p q l m r _ ih =>
      rw [List.map_cons, List.map_cons]
      refine .cons ?_ ih
      rw [← r.1]
      by_cases hk : p.1 = k
      · rw [if_pos hk, if_pos hk]; exact ⟨rfl, is⟩
      · rw [if_neg hk, if_neg hk]; exact r
  · exact h.append (.cons ⟨rfl, is⟩ .nil)
theorem delK_all {es : List (κ × MV)} {kvs : List (κ × Value)} (h : All2 PR es kvs) (k : κ) : All2 PR (delK es k) (without kvs k) := by
  unfold delK without
  induction h with
  | nil => exact .nil
  | @cons p q l m r _ ih =>
    rw [List.filter_cons, List.filter_cons, ← r.1]
    split
    · exact .cons r ih
    · exact ih
end
abbrev NoSlice (sl : Expr) : Prop := ∀ o i, subscripted sl false o i = operate [o, i] (getItem o i)
def ListAt (σ : Hp) (a : Nat) (xs : List MV) : Prop := ∃ t, σ a = some (t, .list xs) ∨ ∃ o, σ a = some (t, .klist xs o)
theorem ListAt.own {σ : Hp} {a t : Nat} {xs : List MV} (h : σ a = some (t, .list xs)) : ListAt σ a xs := ⟨t, .inl h⟩
section
variable {c : Cx} {i : Ix} {ρ : Lo} {σ : Hp} {X : EX}
theorem Rel.isList {f : Fm} {fr : Nat → Option Obj} {z s : Shared} (R : c.Rel f ρ σ fr z s) {a : Nat} {xs : List MV} (h : ListAt σ a xs) : ∃ its, s.heap.IsList a its ∧ All2 MV.Is xs its.toList := by
  obtain ⟨t, h | ⟨o, h⟩⟩ := h
  · obtain ⟨its, n, ho, r⟩ := R.objs _ _ _ h; exact ⟨its, ⟨_, ho, rfl, n, rfl⟩, r⟩
  · obtain ⟨ho, hc, its, n, hd, r⟩ := R.objs _ _ _ h; exact ⟨its, ⟨_, ho, hc, n, hd⟩, r⟩
theorem Rel.fresh {f : Fm} {fr : Nat → Option Obj} {z s : Shared} (R : c.Rel f ρ σ fr z s) : Fresh σ s.heap.objs.size := fun a p e => R.some_lt e
theorem Fresh.none {σ : Hp} {b : Nat} (h : Fresh σ b) : σ b = Option.none := by
  cases e : σ b with
  | none => rfl
  | some p => exact absurd (h b p e) (Nat.lt_irrefl _)
theorem grows (h : Heap) (o : Obj) : ∀ a o', h.get? a = some o' → (h.push o).get? a = some o' := fun a o' e => Heap.get?_push_of_some _ e
theorem size_ok {n : Nat} (h : n ≤ 1000000) : n ≤ sizeLine := by rw [sizeLine_eq]; omega
theorem WE.list {es pos} {Q : MV → Hp → Prop} (t : Nat) (h : WEs c i pos es ρ (fun vs σ₁ => vs.length ≤ 1000000 ∧ ∀ b, Fresh σ₁ b → Q (.ref b) (σ₁.put b t (.list vs))) X σ) : WE c i (.List es pos) ρ Q X σ := fun f fr z s a b g R =>
  List_ (wpAny_mono (h f fr z s a b g R) (fun us s₁ ⟨vs, σ₁, is, R₁, hl, h₁⟩ => wpAny_newList (by
    refine ⟨.ref s₁.heap.objs.size, _, rfl, R₁.alloc (mo := .list vs) (tk := s₁.toks) t (.of_grown (grows _ _)) (Nat.le_refl _) (fun q => by cases q) ⟨us.toArray, 0, Heap.get?_push_size _ rfl, by simpa using is⟩, h₁ _ R₁.fresh⟩) (size_ok (by rw [← is.length]; exact hl))) fun _ _ x => x)
theorem WE.tuple {es k pos} {Q : MV → Hp → Prop} (t : Nat) (h : WEs c i pos es ρ (fun vs σ₁ => vs.length ≤ 1000000 ∧ ∀ b, Fresh σ₁ b → Q (.ref b) (σ₁.put b t (.tuple vs))) X σ) : WE c i (.Tuple es k pos) ρ Q X σ := fun f fr z s a b g R =>
  Tuple_ (wpAny_mono (h f fr z s a b g R) (fun us s₁ ⟨vs, σ₁, is, R₁, hl, h₁⟩ => wpAny_newTuple (by
    refine ⟨.ref s₁.heap.objs.size, _, rfl, R₁.alloc (mo := .tuple vs) (tk := s₁.toks) t (.of_grown (grows _ _)) (Nat.le_refl _) (fun q => by cases q) ⟨us.toArray, 0, Heap.get?_push_size _ rfl, by simpa using is⟩, h₁ _ R₁.fresh⟩) (size_ok (by rw [← is.length]; exact hl))) fun _ _ x => x)
theorem Good.modules {n : Nat} {f : Fm} {fr : Nat → Option Obj} (g : Good c n f fr) {z s : Shared} (R : c.Rel f ρ σ fr z s) {b : Nat} (h : s.heap.objs.size ≤ b) : (b == sysModules) = false := by
  have h1 := modules_low (g.at R).nolimit
  rw [beq_eq_false_iff_ne]
  intro q
  rw [q] at h
  exact absurd (Nat.lt_of_lt_of_le h1 h) (Nat.lt_irrefl _)
theorem keyIs_new {κ : Type} [DecidableEq κ] (knd : KeyKind c.prog c.w κ) (h : Heap) : KeyIs knd ({ cls := .type "dict", data := .dict #[] } : Obj) ([] : List (κ × MV)) := by
  obtain ⟨o, ho, hd⟩ := Heap.dictOf_iff.mp (Heap.DictOf.new (knd := knd) h)
  rw [Heap.get?_push_size _ rfl] at ho
  exact ⟨[], (Option.some.inj ho) ▸ hd, .nil⟩
theorem WE.sdict {pos} {Q : MV → Hp → Prop} (t : Nat) (h : ∀ b, Fresh σ b → Q (.ref b) (σ.put b t (.sdict []))) : WE c i (.Dict [] [] pos) ρ Q X σ := fun f fr z s a b g R =>
  wpAny_Dict_empty ⟨.ref s.heap.objs.size, _, rfl, R.alloc (mo := .sdict []) (tk := s.toks) t (.of_grown (grows _ _)) (Nat.le_refl _) (fun q => by cases q) ⟨g.modules R (Nat.le_refl _), _, Heap.get?_push_size _ rfl, keyIs_new _ s.heap⟩, h _ R.fresh⟩
theorem WE.idict {pos} {Q : MV → Hp → Prop} (t : Nat) (h : ∀ b, Fresh σ b → Q (.ref b) (σ.put b t (.idict [] 0))) : WE c i (.Dict [] [] pos) ρ Q X σ := fun f fr z s a b g R =>
  wpAny_Dict_empty ⟨.ref s.heap.objs.size, _, rfl, R.alloc (mo := .idict [] 0) (tk := s.toks) t (.of_grown (grows _ _)) (Nat.le_refl _) (fun q => by cases q) ⟨g.modules R (Nat.le_refl _), _, Heap.get?_push_size _ rfl, keyIs_new _ s.heap, _, rfl⟩, h _ R.fresh⟩
-- reading a list
theorem WSub.list {value slice a k xs v} {Q : MV → Hp → Prop} (hs : NoSlice slice) (hl : ListAt σ a xs) (h0 : 0 ≤ k) (h1 : k < 2 ^ 63) (hx : xs[k.toNat]? = some v) (h : Q v σ) : WSub c i value slice (.ref a) (.int k) ρ Q X σ := fun v' u iv iu f fr z s _ _ g R => by
  cases iv; obtain ⟨t, rfl⟩ := iu
  obtain ⟨its, hi, r⟩ := R.isList hl
  obtain ⟨x, hx', is⟩ := r.get hx
  exact tail_any hi.typeIs slot_list_getitem.lookup (wpAny_getItem_list hi h0 h1 (by simpa using hx') ⟨v, σ, is, R, h⟩) (hs _ _)
theorem WCall.lenList {a xs} {Q : MV → Hp → Prop} (hl : ListAt σ a xs) (hz : xs.length ≤ 1000000) (h : Q (.int xs.length) σ) : WCall c i (.con (.builtin "len")) [.ref a] ρ Q X σ := fun v us iv iu f fr z s _ _ g R => by
  cases iv
  obtain ⟨u, rfl, i1⟩ := iu.one
  cases i1
  obtain ⟨its, hi, r⟩ := R.isList hl
  have e : its.size = xs.length := by rw [r.length]; simp
  refine Calls.call_len_list hi (by rw [e]; omega) ⟨.int xs.length, σ, ⟨_, by rw [e]⟩, R.toks _, h⟩
-- changing a list
theorem WPut.list {a t : Nat} {k : Int} {xs : List MV} {v : MV} {Q : Unit → Hp → Prop} (hl : σ a = some (t, .list xs)) (h0 : 0 ≤ k) (h1 : k < xs.length) (hz : xs.length ≤ 1000000) (h : Q () (σ.put a t (.list (xs.set k.toNat v)))) : WPut c i (.ref a) (.int k) v ρ Q X σ := fun v' y u iv iy iu f fr z s _ _ g R => by
  cases iv; obtain ⟨tk, rfl⟩ := iy
  obtain ⟨its, n, ho, r⟩ := R.objs _ _ _ hl
  have e : its.size = xs.length := by rw [r.length]; simp
  refine ki_setAt ho h0 (by omega) (by rw [e]; exact h1) ⟨(), _, rfl, R.upd (t' := t) (mo' := .list (xs.set k.toNat v)) (tk := s.toks) hl rfl rfl (.of_same (Heap.SameBut.update ..) (R.neL hl)) ⟨its.setIfInBounds k.toNat u, _, PySem.IsL.update ho _, ?_⟩, h⟩
  rw [Array.toList_setIfInBounds]
  exact r.set iu _
theorem WM.listAppend {a t xs} {Q : MV × List MV → Hp → Prop} (hl : σ a = some (t, .list xs)) (h : Q (.con (.builtin "list.append"), [.ref a]) σ) : WM c i (.ref a) "append" ρ Q X σ := fun v pl iv f fr z s _ _ g R => by
  cases iv
  obtain ⟨its, n, ho, r⟩ := R.objs _ _ _ hl
  exact getMethod_builtin (T := "list") ⟨_, ho, rfl⟩ PySem.F.plainAttrs_list PySem.F.slot_list_append PySem.F.type_list_append (fun b e => by cases e; exact ⟨_, ho, rfl⟩) ⟨(.con (.builtin "list.append"), [.ref a]), σ, ⟨rfl, .cons rfl .nil⟩, R, h⟩
theorem WCall.append {a t : Nat} {xs : List MV} {v : MV} {Q : MV → Hp → Prop} (hl : σ a = some (t, .list xs)) (hz : xs.length ≤ 1000000) (h : Q .none (σ.put a t (.list (xs ++ [v])))) : WCall c i (.con (.builtin "list.append")) [.ref a, v] ρ Q X σ := fun v' us iv iu f fr z s _ _ g R => by
  cases iv
  obtain ⟨u1, u2, rfl, i1, i2⟩ := iu.two
  cases i1
  obtain ⟨its, n, ho, r⟩ := R.objs _ _ _ hl
  have e : its.size = xs.length := by rw [r.length]; simp
  refine append_at ho (fun h' hs ho' => ⟨.none, _, rfl, R.upd (t' := t) (mo' := .list (xs ++ [v])) (tk := s.toks) hl rfl rfl (.of_same hs (R.neL hl)) ⟨_, _, ho', ?_⟩, h⟩) (size_ok (by rw [e]; exact hz))
  rw [Array.toList_push]
  exact r.append (.cons i2 .nil)
-- dicts by texts
theorem Rel.sdict {f : Fm} {fr : Nat → Option Obj} {z s : Shared} (R : c.Rel f ρ σ fr z s) {a t : Nat} {es : List (Str × MV)} (h : σ a = some (t, .sdict es)) : (a == sysModules) = false ∧ ∃ kvs, s.heap.DictOf (PySem.strKind c.prog c.w) a kvs ∧ All2 PR es kvs := by
  obtain ⟨l, o, ho, kvs, hd, r⟩ := R.objs _ _ _ h
  exact ⟨l, kvs, Heap.dictOf_iff.mpr ⟨o, ho, hd⟩, r⟩
theorem Rel.idict {f : Fm} {fr : Nat → Option Obj} {z s : Shared} (R : c.Rel f ρ σ fr z s) {a t ep : Nat} {es : List (Int × MV)} (h : σ a = some (t, .idict es ep)) : (a == sysModules) = false ∧ ∃ kvs, s.heap.DictOf (PySem.intKind c.prog c.w) a kvs ∧ s.heap.DictAt (PySem.intKind c.prog c.w) a kvs ep ∧ All2 PR es kvs := by
  obtain ⟨l, o, ho, ⟨kvs, hd, r⟩, q, hq⟩ := R.objs _ _ _ h
  have hk := Heap.dictOf_iff.mpr ⟨o, ho, hd⟩
  refine ⟨l, kvs, hk, ?_, r⟩
  obtain ⟨ep', o', es', h1, h2, h3, h4⟩ := hk.dictAt
  obtain rfl : o = o' := Option.some.inj (ho.symm.trans h1)
  rw [hq] at h3
  cases h3
  exact ⟨o, q, ho, h2, hq, h4⟩
theorem WC.inS {a t es k} {Q : MV → Hp → Prop} (hd : σ a = some (t, .sdict es)) (h : Q (.bool (getK es k).isSome) σ) : WC c i .In (.str k) (.ref a) ρ Q X σ := fun v u iv iu f fr z s _ _ g R => by
  obtain ⟨tk, rfl⟩ := iv; cases iu
  obtain ⟨l, kvs, hk, r⟩ := Rel.sdict R hd
  refine wpAny_in_of (PySem.strKind_is _ _ k tk) l hk.mapOf ⟨.bool _, σ, rfl, R.toks _, ?_⟩
  rw [getK_isSome r]; exact h
theorem WC.notInS {a t es k} {Q : MV → Hp → Prop} (hd : σ a = some (t, .sdict es)) (h : Q (.bool (!(getK es k).isSome)) σ) : WC c i .NotIn (.str k) (.ref a) ρ Q X σ := fun v u iv iu f fr z s _ _ g R => by
  obtain ⟨tk, rfl⟩ := iv; cases iu
  obtain ⟨l, kvs, hk, r⟩ := Rel.sdict R hd
  refine wpAny_notIn_of (PySem.strKind_is _ _ k tk) l hk.mapOf ⟨.bool _, σ, rfl, R.toks _, ?_⟩
  rw [getK_isSome r]; exact h
theorem WC.inI {a t es ep k} {Q : MV → Hp → Prop} (hd : σ a = some (t, .idict es ep)) (h : Q (.bool (getK es k).isSome) σ) : WC c i .In (.int k) (.ref a) ρ Q X σ := fun v u iv iu f fr z s _ _ g R => by
  obtain ⟨tk, rfl⟩ := iv; cases iu
  obtain ⟨l, kvs, hk, _, r⟩ := Rel.idict R hd
  refine wpAny_in_of (PySem.intKind_is _ _ k tk) l hk.mapOf ⟨.bool _, σ, rfl, R.toks _, ?_⟩
  rw [getK_isSome r]; exact h
theorem WSub.sdict {value slice a t es k v} {Q : MV → Hp → Prop} (hs : NoSlice slice) (hd : σ a = some (t, .sdict es)) (hv : getK es k = some v) (h : Q v σ) : WSub c i value slice (.ref a) (.str k) ρ Q X σ := fun v' u iv iu f fr z s _ _ g R => by
  cases iv; obtain ⟨tk, rfl⟩ := iu
  obtain ⟨l, kvs, hk, r⟩ := Rel.sdict R hd
  obtain ⟨x, hx, is⟩ := getK_some r hv
  exact tail_any hk.typeIs slot_dict_getitem.lookup (wpAny_getItem_of (PySem.strKind_is _ _ k tk) hk.mapOf hx ⟨v, σ, is, R.toks _, h⟩) (hs _ _)
theorem WSub.idict {value slice a t es ep k v} {Q : MV → Hp → Prop} (hs : NoSlice slice) (hd : σ a = some (t, .idict es ep)) (hv : getK es k = some v) (h : Q v σ) : WSub c i value slice (.ref a) (.int k) ρ Q X σ := fun v' u iv iu f fr z s _ _ g R => by
  cases iv; obtain ⟨tk, rfl⟩ := iu
  obtain ⟨l, kvs, hk, _, r⟩ := Rel.idict R hd
  obtain ⟨x, hx, is⟩ := getK_some r hv
  exact tail_any hk.typeIs slot_dict_getitem.lookup (wpAny_getItem_of (PySem.intKind_is _ _ k tk) hk.mapOf hx ⟨v, σ, is, R.toks _, h⟩) (hs _ _)
theorem WPut.sdict {a t : Nat} {es : List (Str × MV)} {k : Str} {v : MV} {Q : Unit → Hp → Prop} (hd : σ a = some (t, .sdict es)) (hz : es.length ≤ 1000000) (h : Q () (σ.put a t (.sdict (putK es k v)))) : WPut c i (.ref a) (.str k) v ρ Q X σ := fun v' y u iv iy iu f fr z s _ _ g R => by
  cases iv; obtain ⟨tk, rfl⟩ := iy
  obtain ⟨l, kvs, hk, r⟩ := Rel.sdict R hd
  refine wpAny_setItem_pairs (PySem.strKind_is _ _ k tk) hk (fun h' hk' hs => ⟨(), _, rfl, R.upd (t' := t) (mo' := .sdict (putK es k v)) hd rfl rfl (.of_same hs (R.neL hd)) ⟨l, ?_⟩, h⟩) (size_ok (by rw [← r.length]; exact hz))
  obtain ⟨o, ho, hd'⟩ := Heap.dictOf_iff.mp hk'
  exact ⟨o, ho, _, hd', putK_all r iu⟩
theorem WPut.idict {a t ep : Nat} {es : List (Int × MV)} {k : Int} {v : MV} {Q : Unit → Hp → Prop} (hd : σ a = some (t, .idict es ep)) (hz : es.length ≤ 1000000) (h : ∀ ep', Q () (σ.put a t (.idict (putK es k v) ep'))) : WPut c i (.ref a) (.int k) v ρ Q X σ := fun v' y u iv iy iu f fr z s _ _ g R => by
  cases iv; obtain ⟨tk, rfl⟩ := iy
  obtain ⟨l, kvs, hk, _, r⟩ := Rel.idict R hd
  refine wpAny_setItem_pairs (PySem.intKind_is _ _ k tk) hk (fun h' hk' hs => ?_) (size_ok (by rw [← r.length]; exact hz))
  obtain ⟨o, ho, hd'⟩ := Heap.dictOf_iff.mp hk'
  obtain ⟨ep', o', es', h1, h2, h3, h4⟩ := hk'.dictAt
  obtain rfl : o = o' := Option.some.inj (ho.symm.trans h1)
  exact ⟨(), _, rfl, R.upd (t' := t) (mo' := .idict (putK es k v) ep') hd rfl rfl (.of_same hs (R.neL hd)) ⟨l, o, ho, ⟨_, hd', putK_all r iu⟩, es', h3⟩, h ep'⟩
end
end Mine
open PySem PySem.W PyProof.Rows
namespace Mine
open Classical in
noncomputable def addFr (fr : Nat → Option Obj) (I : Nat) (o : Obj) : Nat → Option Obj := fun a => if a = I then some o else fr a
theorem addFr_self {fr : Nat → Option Obj} {I : Nat} {o : Obj} : addFr fr I o I = some o := by simp [addFr]
theorem addFr_ne {fr : Nat → Option Obj} {I a : Nat} {o : Obj} (h : a ≠ I) : addFr fr I o a = fr a := by simp [addFr, h]
structure Alien (f : Fm) (σ : Hp) (fr : Nat → Option Obj) (I : Nat) : Prop where
  fr : fr I = none
  foot : ¬ Foot σ I
  L : I ≠ f.env.locals
  cells : ∀ x k, (x, k) ∈ f.env.cells → I ≠ k
theorem Good.add {c : Cx} {n : Nat} {f : Fm} {fr : Nat → Option Obj} (g : Good c n f fr) {I : Nat} {o : Obj} (hI : fr I = none) : Good c n f (addFr fr I o) := by
  have k : ∀ a o', fr a = some o' → addFr fr I o a = some o' := fun a o' e => by
    rw [addFr_ne (fun q => by subst q; rw [hI] at e; cases e)]; exact e
  exact {
    ok := g.ok, base := fun a o' e => k a o' (g.base a o' e), apart := g.apart, K := g.K, top := g.top, kind := g.kind, globals := g.globals, celled := g.celled, cellk := g.cellk, cellnd := g.cellnd, builtins := g.builtins
    room := g.room, units := g.units, frames := g.frames, topk := g.topk, low := g.low, slots := g.slots
    topL := by
      obtain ⟨L, h1, h2, h3⟩ := g.topL
      exact ⟨L, h1, h2.imp id fun ⟨h4, o', h5, h6⟩ => ⟨h4, o', k _ _ h5, h6⟩, h3⟩
    slotIn := fun a ha => let ⟨o', e⟩ := g.slotIn a ha; ⟨o', k _ _ e⟩
    home := g.home
    outer := fun env he => let ⟨h1, L, o', h2, h3, h4, h5⟩ := g.outer env he; ⟨h1, L, o', h2, h3, k _ _ h4, h5⟩ }
theorem Rel.add {c : Cx} {f : Fm} {ρ : Lo} {σ : Hp} {fr : Nat → Option Obj} {z s : Shared} (R : c.Rel f ρ σ fr z s) {I : Nat} {o : Obj} (al : Alien f σ fr I) (ho : s.heap.get? I = some o) : c.Rel f ρ σ (addFr fr I o) z s where
  same := R.same
  keep := fun a o' e => by
    by_cases q : a = I
    · subst q; rw [addFr_self] at e; cases e; exact ⟨o.slots, ho, fun _ => rfl⟩
    · rw [addFr_ne q] at e; exact R.keep a o' e
  objs := R.objs
  wf := R.wf
  apart := fun a h => by
    have q : a ≠ I := fun q => al.foot (q ▸ h)
    rw [addFr_ne q]; exact R.apart a h
  ns := R.ns
  cel := R.cel
  frame := ⟨by rw [addFr_ne (Ne.symm al.L)]; exact R.frame.1, fun x k hk => by rw [addFr_ne (Ne.symm (al.cells x k hk))]; exact R.frame.2 x k hk⟩
  kl := R.kl
theorem Rel.drop {c : Cx} {f : Fm} {ρ : Lo} {σ : Hp} {fr : Nat → Option Obj} {z s : Shared} {I : Nat} {o : Obj} (hI : fr I = none) (R : c.Rel f ρ σ (addFr fr I o) z s) (hs : I ∉ f.slotted) : c.Rel f ρ σ fr z s ∧ Alien f σ fr I ∧ s.heap.get? I = some o := by
  have k : ∀ a o', fr a = some o' → addFr fr I o a = some o' := fun a o' e => by
    rw [addFr_ne (fun q => by subst q; rw [hI] at e; cases e)]; exact e
  have back : ∀ a, addFr fr I o a = none → a ≠ I ∧ fr a = none := fun a e => by
    by_cases q : a = I
    · subst q; rw [addFr_self] at e; cases e
    · rw [addFr_ne q] at e; exact ⟨q, e⟩
  refine ⟨⟨R.same, fun a o' e => R.keep a o' (k a o' e), R.objs, R.wf, fun a h => ⟨(back a (R.apart a h).1).2, (R.apart a h).2⟩, R.ns, R.cel, ⟨(back _ R.frame.1).2, fun x c' hc => ⟨(back _ (R.frame.2 x c' hc).1).2, (R.frame.2 x c' hc).2⟩⟩, R.kl⟩, ?_, ?_⟩
  · exact ⟨hI, fun h => (back I (R.apart I h).1).1 rfl, fun q => (back _ R.frame.1).1 q.symm, fun x c' hc q => (back _ (R.frame.2 x c' hc).1).1 q.symm⟩
  · obtain ⟨sl, e1, e2⟩ := R.keep I o addFr_self
    rw [e1, e2 hs]
theorem Rel.fresh_alien {c : Cx} {f : Fm} {ρ : Lo} {σ : Hp} {fr : Nat → Option Obj} {z s : Shared} (R : c.Rel f ρ σ fr z s) : Alien f σ fr s.heap.objs.size where
  fr := by
    cases e : fr s.heap.objs.size with
    | none => rfl
    | some o => exact absurd (R.fr_lt e) (Nat.lt_irrefl _)
  foot := fun h => absurd (R.foot_lt h) (Nat.lt_irrefl _)
  L := fun q => by have h := R.L_lt; rw [show f.L = s.heap.objs.size from q.symm] at h; exact absurd h (Nat.lt_irrefl _)
  cells := fun x k hk q => by have h := R.cel_lt hk; rw [← q] at h; exact absurd h (Nat.lt_irrefl _)
theorem Rel.alien {c : Cx} {f : Fm} {ρ : Lo} {σ : Hp} {fr : Nat → Option Obj} {z s : Shared} (R : c.Rel f ρ σ fr z s) {I : Nat} (al : Alien f σ fr I) {h' : Heap} {tk : Nat} (hk : ∀ t mo, σ I ≠ some (t, mo)) (k : ∀ a o, a ≠ I → s.heap.get? a = some o → h'.get? a = some o) :
    c.Rel f ρ σ fr z { s with heap := h', toks := tk } where
  same := R.same
  keep := fun a o e => let ⟨sl, e1, e2⟩ := R.keep a o e; ⟨sl, k a _ (fun q => by subst q; rw [al.fr] at e; cases e) e1, e2⟩
  objs := fun a t mo e => (R.objs a t mo e).of_same (fun o e' => k a o (fun q => by subst q; exact hk t mo e) e') fun d o hi ed e' => k d o (fun q => by
    subst ed
    cases mo <;> first | cases hi | skip
    exact al.foot (q ▸ .inr ⟨_, _, _, e⟩)) e'
  wf := R.wf
  apart := R.apart
  ns := by obtain ⟨m, ⟨o, es, ep, e, r⟩, q⟩ := R.ns; exact ⟨m, ⟨o, es, ep, k _ _ (Ne.symm al.L) e, r⟩, q⟩
  cel := fun x c' hc => by obtain ⟨o, v, e, r⟩ := R.cel x c' hc; exact ⟨o, v, k _ _ (Ne.symm (al.cells x c' hc)) e, r⟩
  frame := R.frame
  kl := R.kl
structure Steps (c : Cx) (I : Nat) (It : Nat → Heap → Prop) (items : List MV) (still : Hp → Prop) : Prop where
  obj : ∀ k h, It k h → ∃ o, h.get? I = some o ∧ o.cls ≠ .type "list"
  move : ∀ k h h', It k h → (∀ o, h.get? I = some o → h'.get? I = some o) → It k h'
  item : ∀ {k v f ρ σ fr z s A} {Q : Option Value → Shared → Prop} {E : Value → Shared → Prop}, c.Rel f ρ σ fr z s → A.handled = none → still σ → It k s.heap → items[k]? = some v →
    (∀ u h' tk, v.Is u → It (k + 1) h' → (∀ a o, a ≠ I → s.heap.get? a = some o → h'.get? a = some o) → Q (some u) { s with heap := h', toks := tk }) → wpAny c.M A (pyNext (.ref I)) Q E s
  self : ∀ {k s A} {Q : Value → Shared → Prop} {E : Value → Shared → Prop}, It k s.heap → Q (.ref I) s → wpAny c.M A (pyIter (.ref I)) Q E s
  done : ∀ {k f ρ σ fr z s A} {Q : Option Value → Shared → Prop} {E : Value → Shared → Prop}, c.Rel f ρ σ fr z s → A.handled = none → still σ → It k s.heap → items[k]? = none →
    (∀ h' tk, (∀ a o, a ≠ I → s.heap.get? a = some o → h'.get? a = some o) → Q none { s with heap := h', toks := tk }) → wpAny c.M A (pyNext (.ref I)) Q E s
def WFor (c : Cx) (i : Ix) (x : Str) (body : List Stmt) (still : Hp → Prop) (Q : MF → Lo → Hp → Prop) : List MV → Lo → Hp → Prop
  | [], ρ, σ => still σ ∧ Q .next ρ σ
  | v :: vs, ρ, σ => still σ ∧ WSt c i x v ρ (fun ρ₁ σ₁ => WSs c i body ρ₁ (fun m ρ₂ σ₂ => match m with
      | .next | .cont => WFor c i x body still Q vs ρ₂ σ₂
      | .brk => Q .next ρ₂ σ₂
      | .ret u => Q (.ret u) ρ₂ σ₂) noSX σ₁) noSX σ
theorem WFor.still {c : Cx} {i : Ix} {x : Str} {body : List Stmt} {still : Hp → Prop} {Q : MF → Lo → Hp → Prop} {vs : List MV} {ρ : Lo} {σ : Hp} (h : WFor c i x body still Q vs ρ σ) : still σ := by
  cases vs <;> exact h.1
theorem noSX_elim {c : Cx} {f : Fm} {fr : Nat → Option Obj} {z : Shared} {v : Value} {s : Shared} {P : Prop} (h : XPost c f fr z noSX v s) : P := let ⟨_, _, _, _, _, _, _, q⟩ := h; q.elim
theorem for_code {c : Cx} {i : Ix} (hn : i.hn = true) {x : Str} {px : Pos} {body : List Stmt} {I : Nat} {It : Nat → Heap → Prop} {items : List MV} {still : Hp → Prop} (T : Steps c I It items still) {ρ : Lo} {σ : Hp} {Q : MF → Lo → Hp → Prop} {X : Value → Shared → Prop}
    {f : Fm} {fr : Nat → Option Obj} {z s : Shared} (a : f.env.scope = i.sc) (b : i.hn = true → f.A.handled = none) (g : Good c i.n f fr) (R : c.Rel f ρ σ fr z s) (al : Alien f σ fr I) (it : It 0 s.heap) (h : WFor c i x body still Q items ρ σ) :
    codeAny c.M f.A (.forLoop (.Name x px) (.ref I) body [] f.env) (fun r s' => match r with
      | .ok fl => ∃ m ρ' σ', MF.Is m fl ∧ c.Rel f ρ' σ' fr z s' ∧ Q m ρ' σ'
      | .error e => X e s') s := by
  have nI : I ∉ f.slotted := fun h => by obtain ⟨o, e⟩ := g.slotIn I h; rw [al.fr] at e; cases e
  refine codeAny_forLoop (fun m s' => ∃ k ρ' σ', m + k = items.length ∧ It k s'.heap ∧ c.Rel f ρ' σ' fr z s' ∧ Alien f σ' fr I ∧ WFor c i x body still Q (items.drop k) ρ' σ') ?_ items.length ⟨0, ρ, σ, by simp, it, R, al, by simpa using h⟩
  rintro m s' ⟨k, ρ', σ', hmk, it', R', al', h'⟩
  have hkl : ∀ t mo, σ' I ≠ some (t, mo) := fun t mo e => by
    cases q : mo.isK with
    | false => exact al'.foot (.of_some e q)
    | true =>
      cases mo <;> first | cases q | skip
      obtain ⟨h1, h2, _⟩ := R'.objs _ _ _ e
      obtain ⟨o, h3, h4⟩ := T.obj _ _ it'
      rw [h3] at h1; cases h1; exact h4 h2
  cases e : items[k]? with
  | none =>
    have el : items.drop k = [] := by
      rw [List.drop_eq_nil_iff]
      exact List.getElem?_eq_none_iff.mp e
    rw [el] at h'
    refine T.done R' (b hn) h'.1 it' e fun h₁ tk k₁ => ?_
    refine wpAny_execs_nil ?_
    exact ⟨.next, ρ', σ', rfl, R'.alien (tk := tk) al' hkl k₁, h'.2⟩
  | some v =>
    obtain ⟨hlt, rfl⟩ := List.getElem?_eq_some_iff.mp e
    rw [List.drop_eq_getElem_cons hlt] at h'
    refine T.item R' (b hn) h'.1 it' e fun u h₁ tk is it₁ k₁ => ?_
    have R₁ := R'.alien (tk := tk) al' hkl k₁
    obtain ⟨o, ho, hoc⟩ := T.obj _ _ it₁
    have R₂ := R₁.add al' ho
    refine wpAny_assign_Name (wuse4 (h'.2 u is f _ z _ a b (g.add al.fr) R₂) (fun _ s₂ ρ₂ σ₂ R₃ h₂ => ?_) fun _ _ x => noSX_elim x)
    refine wuse6 (h₂ f _ z s₂ a b (g.add al.fr) R₃) (fun fl s₃ mf ρ₃ σ₃ is₃ R₄ h₃ => ?_) fun _ _ x => noSX_elim x
    obtain ⟨R₅, al₅, ho₅⟩ := Rel.drop al.fr R₄ nI
    have again : WFor c i x body still Q (items.drop (k + 1)) ρ₃ σ₃ → ∃ m', m' < m ∧ ∃ k ρ' σ', m' + k = items.length ∧ It k s₃.heap ∧ c.Rel f ρ' σ' fr z s₃ ∧ Alien f σ' fr I ∧ WFor c i x body still Q (items.drop k) ρ' σ' := fun h₃ => by
      refine ⟨m - 1, by omega, k + 1, ρ₃, σ₃, by omega, T.move _ _ _ it₁ fun o' e' => ?_, R₅, al₅, h₃⟩
      rw [ho] at e'; cases e'; exact ho₅
    cases mf with
    | next => cases is₃; exact again h₃
    | cont => cases is₃; exact again h₃
    | brk => cases is₃; exact ⟨.next, ρ₃, σ₃, rfl, R₅, h₃⟩
    | ret v => obtain ⟨u', rfl, is'⟩ := is₃; exact ⟨.ret v, ρ₃, σ₃, ⟨u', rfl, is'⟩, R₅, h₃⟩
theorem Steps.list (c : Cx) {I a : Nat} (hne : a ≠ I) (xs : List MV) : Steps c I (fun k h => h.IsListIter I a k) xs (fun σ => ListAt σ a xs) where
  obj := fun k h ⟨o, h1, h2, _⟩ => ⟨o, h1, by rw [h2]; decide⟩
  move := fun k h h' ⟨o, h1, h2⟩ m => ⟨o, m o h1, h2⟩
  item := fun R hh st it e hQ => by
    obtain ⟨its, hi, r⟩ := R.isList st
    obtain ⟨u, hu, is⟩ := r.get e
    exact wpAny_pyNext_list_item it hi (by simpa using hu) fun h' it' hs => hQ u h' _ is it' fun a o ne ho => (hs.2 a ne).trans ho
  self := fun it hQ => wpAny_pyIter_listiter it hQ
  done := fun R hh st it e hQ => by
    obtain ⟨its, hi, r⟩ := R.isList st
    refine wpAny_pyNext_list_end hh it hi ?_ fun h' hs => hQ h' _ hs
    have := r.length
    rw [Array.getElem?_eq_none_iff]
    rw [List.getElem?_eq_none_iff] at e
    simp at this
    omega
def upTo (lo hi : Int) : List MV := (List.range (hi - lo).toNat).map fun (k : Nat) => .int (lo + (k : Int))
theorem Steps.range (c : Cx) {I : Nat} (lo hi : Int) : Steps c I (fun k h => IsRangeIter h I (lo + (k : Nat)) (((hi - lo).toNat : Int) - (k : Nat)) 1) (upTo lo hi) (fun _ => True) where
  obj := fun k h e => ⟨_, e, by show Value.type "range_iterator" ≠ .type "list"; decide⟩
  move := fun k h h' e m => m _ e
  item := fun {k v f ρ σ fr z s A Q E} R hh st it e hQ => by
    unfold upTo at e
    rw [List.getElem?_map, Option.map_eq_some_iff] at e
    obtain ⟨j, e1, rfl⟩ := e
    obtain ⟨hj, e2⟩ := List.getElem?_eq_some_iff.mp e1
    rw [List.getElem_range] at e2
    subst e2
    rw [List.length_range] at hj
    refine wpAny_pyNext_range_item it (by omega) fun h' it' hs => hQ _ h' _ ⟨_, rfl⟩ ?_ fun a o ne ho => (hs.2 a ne).trans ho
    have e1 : lo + ((k + 1 : Nat) : Int) = lo + (k : Int) + 1 := by omega
    have e2 : ((hi - lo).toNat : Int) - ((k + 1 : Nat) : Int) = ((hi - lo).toNat : Int) - (k : Int) - 1 := by omega
    rw [e1, e2]; exact it'
  self := fun it hQ => wpAny_pyIter_rangeiter it hQ
  done := fun {k f ρ σ fr z s A Q E} R hh st it e hQ => by
    refine wpAny_pyNext_range_end hh it ?_ fun h' hs => hQ h' _ hs
    rw [List.getElem?_eq_none_iff] at e
    simp [upTo] at e
    omega
theorem isInt_shape {c : Cx} {k : Int} {v : Value} (h : (PySem.intKind c.prog c.w).is k v = true) : ∃ t, v = .int k t := by
  cases v <;> simp [PySem.intKind, Value.isInt] at h
  subst h
  exact ⟨_, rfl⟩
theorem Steps.idict (c : Cx) {I a : Nat} (es : List (Int × MV)) (ep : Nat) (hne : a ≠ I) : Steps c I (fun k h => h.IsKeyIter I a k es.length ep) (es.map fun p => .int p.1) (fun σ => ∃ t, σ a = some (t, .idict es ep)) where
  obj := fun k h ⟨o, h1, h2, _⟩ => ⟨o, h1, by rw [h2]; decide⟩
  move := fun k h h' ⟨o, h1, h2⟩ m => ⟨o, m o h1, h2⟩
  item := fun {k v f ρ σ fr z s A Q E} R hh st it e hQ => by
    obtain ⟨t, st⟩ := st
    obtain ⟨l, kvs, _, hD, r⟩ := Rel.idict R st
    rw [List.getElem?_map, Option.map_eq_some_iff] at e
    obtain ⟨p, e1, rfl⟩ := e
    obtain ⟨q, hq, hpq⟩ := r.get e1
    have it2 : s.heap.IsKeyIter I a k kvs.length ep := by rw [← r.length]; exact it
    refine wpAny_pyNext_dict_item it2 hD (k := q.1) (v := q.2) hq fun key h' hk it' hs => ?_
    rw [← hpq.1] at hk
    exact hQ key h' _ (isInt_shape hk) (by show h'.IsKeyIter I a (k + 1) es.length ep; rw [r.length]; exact it') fun a o ne ho => (hs.2 a ne).trans ho
  self := fun it hQ => wpAny_pyIter_keyiter it hQ
  done := fun {k f ρ σ fr z s A Q E} R hh st it e hQ => by
    obtain ⟨t, st⟩ := st
    obtain ⟨l, kvs, _, hD, r⟩ := Rel.idict R st
    have it2 : s.heap.IsKeyIter I a k kvs.length ep := by rw [← r.length]; exact it
    refine wpAny_pyNext_dict_end hh it2 hD ?_ fun h' hs => hQ h' _ hs
    rw [List.getElem?_map, Option.map_eq_none_iff, List.getElem?_eq_none_iff, r.length] at e
    exact List.getElem?_eq_none_iff.mpr e
theorem Steps.text (c : Cx) {I : Nat} (x : Str) (t : Tok) : Steps c I (fun k h => h.IsStrIter I "str_ascii_iterator" x t k) (x.cps.toList.map fun n => .str ⟨#[n]⟩) (fun _ => True) where
  obj := fun k h ⟨o, h1, h2, _⟩ => ⟨o, h1, by rw [h2]; decide⟩
  move := fun k h h' ⟨o, h1, h2⟩ m => ⟨o, m o h1, h2⟩
  item := fun {k v f ρ σ fr z s A Q E} R hh st it e hQ => by
    rw [List.getElem?_map, Option.map_eq_some_iff] at e
    obtain ⟨n, e1, rfl⟩ := e
    exact wpAny_pyNext_ascii_item it (by simpa using e1) fun h' it' hs => hQ _ h' _ ⟨_, rfl⟩ it' fun a o ne ho => (hs.2 a ne).trans ho
  self := fun it hQ => wpAny_pyIter_striter_ascii it hQ
  done := fun {k f ρ σ fr z s A Q E} R hh st it e hQ => by
    rw [List.getElem?_map, Option.map_eq_none_iff] at e
    exact wpAny_pyNext_ascii_end hh it (by simpa using e) fun h' hs => hQ h' _ hs
theorem Rel.isTuple {c : Cx} {f : Fm} {ρ : Lo} {σ : Hp} {fr : Nat → Option Obj} {z s : Shared} (R : c.Rel f ρ σ fr z s) {a t : Nat} {xs : List MV} (h : σ a = some (t, .tuple xs)) : ∃ its, s.heap.IsTuple a its ∧ All2 MV.Is xs its.toList := by
  obtain ⟨its, n, ho, r⟩ := R.objs _ _ _ h; exact ⟨its, ⟨_, ho, rfl, n, rfl⟩, r⟩
section
variable {c : Cx} {i : Ix} {ρ : Lo} {σ : Hp} {X : SX} {Q : MF → Lo → Hp → Prop}
abbrev NotSet (e : Expr) : Prop := ∀ env x, foldedSetIterable e env x = pure x
inductive Iterable : Hp → MV → List MV → (Hp → Prop) → Prop
  | list {σ a xs} : ListAt σ a xs → Iterable σ (.ref a) xs (fun σ => ListAt σ a xs)
  | range {σ a t lo hi} : σ a = some (t, .range lo hi) → -1000000000000 ≤ lo → lo ≤ 1000000000000 → -1000000000000 ≤ hi → hi ≤ 1000000000000 → Iterable σ (.ref a) (upTo lo hi) (fun _ => True)
  | idict {σ a t es ep} : σ a = some (t, .idict es ep) → Iterable σ (.ref a) (es.map fun p => .int p.1) (fun σ => ∃ t, σ a = some (t, .idict es ep))
  | text {σ x} : x.cps.all (· < 128) = true → Iterable σ (.str x) (x.cps.toList.map fun n => .str ⟨#[n]⟩) (fun _ => True)
theorem fitsA {x : Int} (a : -1000000000000 ≤ x) (b : x ≤ 1000000000000) : -2 ^ 63 ≤ x ∧ x < 2 ^ 63 := by omega
theorem iter_start {f : Fm} {fr : Nat → Option Obj} {z s : Shared} {A : Around} {v : MV} {u : Value} {xs : List MV} {still : Hp → Prop} {E : Value → Shared → Prop} {P : Value → Shared → Prop} (R : c.Rel f ρ σ fr z s) (itb : Iterable σ v xs still) (is : v.Is u)
    (h : ∀ I It h₂, Steps c I It xs still → s.heap.objs.size ≤ I → I < h₂.objs.size → (∀ b o, s.heap.get? b = some o → h₂.get? b = some o) → It 0 h₂ → P (.ref I) { s with heap := h₂ }) : wpAny c.M A (pyIter u) P E s := by
  cases itb with
  | @list l xs hl =>
    cases is
    obtain ⟨its, hi, r⟩ := R.isList hl
    have hlt : l < s.heap.objs.size := by obtain ⟨o, ho, _⟩ := hi; exact Heap.lt_size ho
    exact wpAny_pyIter_list hi (h _ _ _ (Steps.list c (Nat.ne_of_lt hlt) xs) (Nat.le_refl _) (by rw [Heap.size_push]; exact Nat.lt_succ_self _) (grows _ _) ⟨_, Heap.get?_push_size _ rfl, rfl, rfl⟩)
  | @range l t lo hi hr h1 h2 h3 h4 =>
    cases is
    obtain ⟨t1, t2, t3, hr'⟩ := R.objs _ _ _ hr
    refine wpAny_pyIter_range hr' ?_ (h _ _ _ (Steps.range c lo hi) (Nat.le_refl _) (by rw [Heap.size_push]; exact Nat.lt_succ_self _) (grows _ _) ?_)
    · unfold Builtin.Range.small
      rw [rangeSize_nat]
      rw [if_pos (by decide : (1 : Int) > 0)]
      simp only [Bool.and_eq_true, Bool.or_eq_true, Builtin.Range.rangeFitsLong, decide_eq_true_eq]
      refine ⟨⟨⟨⟨?_, ?_⟩, ?_⟩, ?_⟩, .inr ?_⟩ <;> first | exact fitsA h1 h2 | exact fitsA h3 h4 | decide | (constructor <;> omega)
    · have e := Heap.get?_push_size s.heap (o := { cls := .type "range_iterator", data := .fields #[rawInt lo, rawInt (Builtin.Range.rangeSize lo hi 1), rawInt 1] }) rfl
      rw [rangeSize_nat] at e ⊢
      show IsRangeIter _ _ _ _ _
      have e1 : lo + ((0 : Nat) : Int) = lo := Int.add_zero lo
      have e2 : ((hi - lo).toNat : Int) - ((0 : Nat) : Int) = ((hi - lo).toNat : Int) := Int.sub_zero _
      rw [e1, e2]
      exact e
  | @idict l t es ep hd =>
    cases is
    obtain ⟨hl, kvs, _, hD, r⟩ := Rel.idict R hd
    have hlt : l < s.heap.objs.size := R.some_lt hd
    refine wpAny_pyIter_dict hl hD (h _ _ _ (Steps.idict c es ep (Nat.ne_of_lt hlt)) (Nat.le_refl _) (by rw [Heap.size_push]; exact Nat.lt_succ_self _) (grows _ _) ?_)
    show Heap.IsKeyIter _ _ _ _ _ _
    rw [r.length]
    exact ⟨_, Heap.get?_push_size _ rfl, rfl, rfl⟩
  | @text x hx =>
    obtain ⟨t, rfl⟩ := is
    exact wpAny_pyIter_ascii hx (h _ _ _ (Steps.text c x t) (Nat.le_refl _) (by rw [Heap.size_push]; exact Nat.lt_succ_self _) (grows _ _) ⟨_, Heap.get?_push_size _ rfl, rfl, rfl⟩)
theorem Rel.alienAt {f : Fm} {fr : Nat → Option Obj} {z s : Shared} (R : c.Rel f ρ σ fr z s) {I : Nat} (h : s.heap.objs.size ≤ I) {σ' : Hp} (hf : ¬ Foot σ' I) : Alien f σ' fr I where
  fr := by
    cases e : fr I with
    | none => rfl
    | some o => exact absurd (R.fr_lt e) (Nat.not_lt.mpr h)
  foot := hf
  L := fun q => by have h' := R.L_lt; rw [show f.L = I from q.symm] at h'; exact absurd h' (Nat.not_lt.mpr h)
  cells := fun x k hk q => by have h' := R.cel_lt hk; rw [← q] at h'; exact absurd h' (Nat.not_lt.mpr h)
theorem Rel.alienNew {f : Fm} {fr : Nat → Option Obj} {z s : Shared} (R : c.Rel f ρ σ fr z s) {I : Nat} (h : s.heap.objs.size ≤ I) : Alien f σ fr I := R.alienAt h fun hf => absurd (R.foot_lt hf) (Nat.not_lt.mpr h)
theorem WS.for {x px it body pos} (hn : i.hn = true) (hs : NotSet it) (h : WE c i it ρ (fun v σ₁ => ∃ xs still, Iterable σ₁ v xs still ∧ WFor c i x body still Q xs ρ σ₁) (X.ex ρ) σ) :
    WS c i (.For (.Name x px) it body [] pos) ρ Q X σ := fun f fr z s a b g R => by
  refine wpAny_For (wpAny_mono (h f fr z s a b g R) (fun u s₁ ⟨v, σ₁, is, R₁, xs, still, itb, h₁⟩ => ?_) fun _ _ x => Ex.at x) (hs _)
  refine iter_start R₁ itb is fun I It h₂ T hI _ kp it => ?_
  have R₂ := R₁.grown (tk := s₁.toks) kp
  exact codeAny_mono (for_code hn T (X := fun _ _ => False) a b g R₂ (R₁.alienNew hI) it h₁) fun r s' q => by
      cases r with
      | ok fl => exact q
      | error e => exact q.elim
theorem Alien.none {n : Nat} {f : Fm} {fr : Nat → Option Obj} {z s : Shared} (g : Good c n f fr) (R : c.Rel f ρ σ fr z s) {I : Nat} (al : Alien f σ fr I) : ∀ t mo, σ I ≠ some (t, mo) := fun t mo e => by
  cases q : mo.isK with
  | false => exact al.foot (.of_some e q)
  | true =>
    cases mo <;> first | cases q | skip
    have h1 := g.base _ _ (R.kl _ _ _ _ e)
    rw [al.fr] at h1; cases h1
end
end Mine
open PySem PySem.W PyProof.Rows
namespace Mine
section
variable {c : Cx} {i : Ix} {ρ : Lo} {σ : Hp} {X : EX}
theorem WCall.range1 {n : Int} {Q : MV → Hp → Prop} (t : Nat) (h : ∀ b, Fresh σ b → Q (.ref b) (σ.put b t (.range 0 n))) : WCall c i (.con (.type "range")) [.int n] ρ Q X σ := fun v us iv iu f fr z s _ _ g R => by
  cases iv
  obtain ⟨u, rfl, tk, rfl⟩ := iu.one
  refine call_range_1 ⟨.ref s.heap.objs.size, _, rfl, R.alloc (mo := .range 0 n) t (.of_grown (grows _ _)) (Nat.le_refl _) (fun q => by cases q) ⟨_, _, _, Heap.get?_push_size _ rfl⟩, h _ R.fresh⟩
theorem WCall.range2 {m n : Int} {Q : MV → Hp → Prop} (t : Nat) (h : ∀ b, Fresh σ b → Q (.ref b) (σ.put b t (.range m n))) : WCall c i (.con (.type "range")) [.int m, .int n] ρ Q X σ := fun v us iv iu f fr z s _ _ g R => by
  cases iv
  obtain ⟨u, u', rfl, ⟨tk, rfl⟩, ⟨tk', rfl⟩⟩ := iu.two
  refine call_range_2 ⟨.ref s.heap.objs.size, _, rfl, R.alloc (mo := .range m n) t (.of_grown (grows _ _)) (Nat.le_refl _) (fun q => by cases q) ⟨_, _, _, Heap.get?_push_size _ rfl⟩, h _ R.fresh⟩
theorem WCall.max2 {m n : Int} {Q : MV → Hp → Prop} (hn : i.hn = true) (h : Q (.int (if n > m then n else m)) σ) : WCall c i (.con (.builtin "max")) [.int m, .int n] ρ Q X σ := fun v us iv iu f fr z s _ hh g R => by
  cases iv
  obtain ⟨u, u', rfl, ⟨tk, rfl⟩, ⟨tk', rfl⟩⟩ := iu.two
  refine max_two_ints (hh hn) fun h' tk k => ⟨.int (if n > m then n else m), σ, ?_, R.grown k, h⟩
  split
  · exact ⟨_, rfl⟩
  · exact ⟨_, rfl⟩
theorem WCall.intB {b : Bool} {Q : MV → Hp → Prop} (h : Q (.int (if b then 1 else 0)) σ) : WCall c i (.con (.type "int")) [.bool b] ρ Q X σ := fun v us iv iu f fr z s _ hh g R => by
  cases iv
  obtain ⟨u, rfl, i1⟩ := iu.one
  cases i1
  exact call_int_bool ⟨.int _, σ, ⟨_, rfl⟩, R.toks _, h⟩
theorem WCall.listKeys {a t' : Nat} {es : List (Str × MV)} {Q : MV → Hp → Prop} (t : Nat) (hn : i.hn = true) (hd : σ a = some (t', .sdict es)) (hz : es.length ≤ 1000000) (h : ∀ b, Fresh σ b → Q (.ref b) (σ.put b t (.list (es.map fun p => .str p.1)))) : WCall c i (.con (.type "list")) [.ref a] ρ Q X σ := fun v us iv iu f fr z s _ hh g R => by
  cases iv
  obtain ⟨u, rfl, i1⟩ := iu.one
  cases i1
  obtain ⟨l, kvs, hk, r⟩ := Rel.sdict R hd
  obtain ⟨ep, hat⟩ := hk.dictAt
  refine kdl_call (kdl_dict (knd := PySem.strKind c.prog c.w) (kvs := kvs) (ep := ep) l) (hh hn) hat (size_ok (by rw [← r.length]; exact hz)) fun h' tk acc' c' kp hD hacc => ?_
  refine ⟨.ref s.heap.objs.size, _, rfl, R.alloc (mo := .list (es.map fun p => .str p.1)) t (.of_grown kp) (Nat.le_refl _) (fun q => by cases q) ⟨acc', c', hD, ?_⟩, h _ R.fresh⟩
  obtain ⟨hs, hp⟩ := hacc
  have key : ∀ (es : List (Str × MV)) (kvs : List (Str × Value)) (l : List Value), All2 PR es kvs → l.length = kvs.length → (∀ (j : Nat) v, l[j]? = some v → ∃ k x, kvs[j]? = some (k, x) ∧ (PySem.strKind c.prog c.w).is k v = true) → All2 MV.Is (es.map fun p => .str p.1) l := by
    intro es kvs l r
    induction r generalizing l with
    | nil => intro hl _; cases l with
      | nil => exact .nil
      | cons _ _ => simp at hl
    | @cons p q l1 l2 r0 r1 ih =>
      intro hl hv
      cases l with
      | nil => simp at hl
      | cons v l =>
        obtain ⟨k, x, e1, e2⟩ := hv 0 v rfl
        cases e1
        obtain ⟨tk, rfl⟩ := Value.isStrOf_shape e2
        refine .cons ⟨tk, ?_⟩ (ih l (by simpa using hl) fun j v' hj => hv (j + 1) v' hj)
        rw [r0.1]
  exact key es kvs acc'.toList r (by simpa using hs) fun j v hj => hp j v (by simpa using hj)
def repS (x : Str) (n : Nat) : Str := ⟨(List.replicate n x.cps).foldl (· ++ ·) #[]⟩
theorem foldl_app (l : List (Array Nat)) (acc : Array Nat) : l.foldl (· ++ ·) acc = acc ++ l.foldl (· ++ ·) #[] := by
  induction l generalizing acc with
  | nil => simp
  | cons a r ih => simp only [List.foldl_cons]; rw [ih (acc ++ a), ih (#[] ++ a)]; simp
theorem repS_length (x : Str) (n : Nat) : (repS x n).length = n * x.length := by
  show ((List.replicate n x.cps).foldl (· ++ ·) #[]).size = _
  induction n with
  | zero => simp
  | succ n ih =>
    rw [List.replicate_succ, List.foldl_cons, foldl_app, Array.size_append, Array.size_append, ih, Nat.succ_mul]
    show 0 + x.length + n * x.length = _
    omega
theorem WB.mulS {x : Str} {n : Int} {Q : MV → Hp → Prop} (h0 : 0 ≤ n) (h1 : n ≤ 1000) (h2 : x.length ≤ 1000) (h : Q (.str (repS x n.toNat)) σ) : WB c i .Mult (.str x) (.int n) ρ Q X σ := fun v u iv iu f fr z s _ _ g R => by
  obtain ⟨t, rfl⟩ := iv; obtain ⟨t', rfl⟩ := iu
  have hlen : x.length * n.toNat ≤ 1000000 := by
    have : n.toNat ≤ 1000 := by omega
    exact Nat.le_trans (Nat.mul_le_mul h2 this) (by decide)
  have fin : ∀ tk tk', (fun (a : Value) s' => ∃ m σ', MV.Is m a ∧ c.Rel f ρ σ' fr z s' ∧ Q m σ') (.str (repS x n.toNat) tk) { s with toks := tk' } := fun tk tk' => ⟨.str (repS x n.toNat), σ, ⟨_, rfl⟩, R.toks _, h⟩
  refine PySem.P.mul_str (by simp; omega) (fun _ hq => ?_) (fun _ _ => ?_) ?_
  · intro hgt
    have hn1 : (1 : Int) ≤ n := by omega
    have : (2 ^ 63 - 1 : Int) / 1000 ≤ (2 ^ 63 - 1) / n := by
      have h3 : (2 ^ 63 - 1 : Int) / 1000 * n ≤ 2 ^ 63 - 1 := by
        have : (2 ^ 63 - 1 : Int) / 1000 = 9223372036854775 := by decide
        rw [this]
        have : (9223372036854775 : Int) * n ≤ 9223372036854775 * 1000 := Int.mul_le_mul_of_nonneg_left h1 (by decide)
        omega
      exact (Int.le_ediv_iff_mul_le (by omega)).mpr h3
    have e : (2 ^ 63 - 1 : Int) / 1000 = 9223372036854775 := by decide
    omega
  · unfold Builtin.Str.tooLong
    rw [decide_eq_false_iff_not, sizeLine_eq]
    omega
  · by_cases q : n < 1
    · rw [if_pos q]
      have : n.toNat = 0 := by omega
      have e : repS x n.toNat = Str.empty := by rw [this]; rfl
      refine ⟨by rw [sizeLine_eq]; show 0 ≤ _; omega, ?_⟩
      rw [← e]; exact fin _ _
    · rw [if_neg q]
      by_cases q2 : (n == 1 || x.length == 0) = true
      · rw [if_pos q2]
        have e : repS x n.toNat = x := by
          rw [Bool.or_eq_true] at q2
          rcases q2 with q2 | q2
          · have : n.toNat = 1 := by have := beq_iff_eq.mp q2; omega
            rw [this]
            show (⟨(#[] ++ x.cps)⟩ : Str) = x
            rw [Array.empty_append]
          · have h3 := repS_length x n.toNat
            have h4 := beq_iff_eq.mp q2
            rw [h4, Nat.mul_zero] at h3
            obtain ⟨y, hy⟩ : ∃ y, repS x n.toNat = y := ⟨_, rfl⟩
            rw [hy] at h3 ⊢
            obtain ⟨a⟩ := y
            obtain ⟨b⟩ := x
            have h3' : a.size = 0 := h3
            have h4' : b.size = 0 := h4
            rw [Array.eq_empty_of_size_eq_zero h3', Array.eq_empty_of_size_eq_zero h4']
        show (fun (a : Value) s' => ∃ m σ', MV.Is m a ∧ c.Rel f ρ σ' fr z s' ∧ Q m σ') (.str x t) s
        have := fin t s.toks
        rw [e] at this
        exact this
      · rw [if_neg q2]
        refine ⟨?_, fin _ _⟩
        rw [sizeLine_eq]
        have := repS_length x n.toNat
        show (repS x n.toNat).length ≤ _
        rw [this, Nat.mul_comm]
        omega
theorem all2_rep {α β : Type} {Rl : α → β → Prop} {l : List α} {m : List β} (h : All2 Rl l m) : ∀ n, All2 Rl (List.replicate n l).flatten (List.replicate n m).flatten
  | 0 => .nil
  | n + 1 => by rw [List.replicate_succ, List.replicate_succ, List.flatten_cons, List.flatten_cons]; exact h.append (all2_rep h n)
theorem WB.mulL {a t' : Nat} {xs : List MV} {n : Int} {Q : MV → Hp → Prop} (t : Nat) (hl : σ a = some (t', .list xs)) (h0 : 0 ≤ n) (h1 : n ≤ 1000) (h2 : xs.length ≤ 1000) (h : ∀ b, Fresh σ b → Q (.ref b) (σ.put b t (.list (List.replicate n.toNat xs).flatten))) : WB c i .Mult (.ref a) (.int n) ρ Q X σ := fun v u iv iu f fr z s _ _ g R => by
  cases iv; obtain ⟨t', rfl⟩ := iu
  obtain ⟨its, k, ho, r⟩ := R.objs _ _ _ hl
  obtain ⟨m, hn, hm⟩ := R.ns
  have e : its.size = xs.length := by rw [r.length]; simp
  have hlen : its.size * n.toNat ≤ 1000000 := by
    have : n.toNat ≤ 1000 := by omega
    rw [e]
    exact Nat.le_trans (Nat.mul_le_mul h2 this) (by decide)
  refine mul_list (fr_all hn) (news_all s.heap f.env.locals) ho (by omega) (by omega) (by omega) fun h' F' N' => ?_
  have K' : Kept f.L (fun _ => False) s.heap h' := Kept.of_news hn F' N' fun p hp _ => .tail _ hp
  have hD := (N' (s.heap.objs.size, _) (.head _)).1
  rw [listMul_foldl_if] at hD
  refine ⟨.ref s.heap.objs.size, _, rfl, R.alloc (mo := .list (List.replicate n.toNat xs).flatten) (tk := s.toks) t K' (Nat.le_refl _) (fun q => by cases q) ⟨_, 0, hD, ?_⟩, h _ R.fresh⟩
  simpa using all2_rep r n.toNat
theorem WE.sliceFrom {nm np lo p pos} {Q : MV → Hp → Prop} (t : Nat) (h : WE c i (.Name nm np) ρ (fun a σ₁ => WE c i lo ρ (fun b σ₂ => ∃ l xs, ∃ k : Int, a = .ref l ∧ b = .int k ∧ 0 ≤ k ∧ ListAt σ₂ l xs ∧ xs.length ≤ 1000000 ∧
    ∀ B, Fresh σ₂ B → Q (.ref B) (σ₂.put B t (.list (xs.drop k.toNat)))) X σ₁) X σ) : WE c i (.Subscript (.Name nm np) (.Slice (some lo) Option.none Option.none p) pos) ρ Q X σ := fun f fr z s a b g R => by
  refine wpAny_Subscript_list_slice (wuse (h f fr z s a b g R) (fun v s₁ _ σ₁ i1 R₁ h₁ => wpAny_evalPart_some (wpAny_mono (h₁ f fr z s₁ a b g R₁) (fun u s₂ ⟨_, σ₂, i2, R₂, l, xs, k, e1, e2, h0, hl, hz, h₂⟩ => ?_) fun _ _ x => x)) fun _ _ x => x)
  subst e1; subst e2
  cases i1; obtain ⟨tk, rfl⟩ := i2
  obtain ⟨its, hi, r⟩ := R₂.isList hl
  have e : its.size = xs.length := by rw [r.length]; simp
  refine wpAny_evalPart_none ⟨l, its, some k, Option.none, rfl, hi, size_ok (by rw [e]; exact hz), .int _ _, .none, ?_⟩
  obtain ⟨kn, rfl⟩ := Int.eq_ofNat_of_zero_le h0
  rw [slicePick_from']
  have kp : ∀ b o, s₂.heap.get? b = some o → ((s₂.heap.push { cls := .type "slice", data := .fields #[.int (kn : Int) tk, .none, .none] }).push { cls := .type "list", data := .seq (its.toList.drop kn).toArray }).get? b = some o :=
    fun b o e => Heap.get?_push_of_some _ (Heap.get?_push_of_some _ e)
  have hD : ((s₂.heap.push { cls := .type "slice", data := .fields #[.int (kn : Int) tk, .none, .none] }).push { cls := .type "list", data := .seq (its.toList.drop kn).toArray }).get? (s₂.heap.objs.size + 1) = some (listOf (its.toList.drop kn).toArray 0) := by heap_get
  refine ⟨.ref (s₂.heap.objs.size + 1), _, rfl, R₂.alloc (mo := .list (xs.drop kn)) (tk := s₂.toks) t (.of_grown kp) (Nat.le_succ _) (fun q => by cases q) ⟨_, _, hD, ?_⟩, h₂ _ fun a p e => Nat.lt_succ_of_lt (R₂.some_lt e)⟩
  have dr : ∀ (k : Nat) (l : List MV) (m : List Value), All2 MV.Is l m → All2 MV.Is (l.drop k) (m.drop k) := by
    intro k
    induction k with
    | zero => intro l m h; exact h
    | succ k ih =>
      intro l m h
      cases h with
      | nil => exact .nil
      | cons _ h => exact ih _ _ h
  simpa using dr kn _ _ r
end
end Mine
open PySem PySem.W PyProof.Rows
namespace Mine
def closOf : List (Str × NameKind) → List (Str × Nat) → List (Str × Nat) → List (Str × Nat)
  | [], _, acc => acc
  | (x, k) :: r, cells, acc => if k == .free then closOf r cells ((x, (cells.lookup x).getD 0) :: acc) else closOf r cells acc
theorem closureFor_eq {scope : Scope} {env : Env} (h : ∀ p ∈ scope.names, p.2 = .free → (env.cells.lookup p.1).isSome = true) : closureFor scope env = pure (closOf scope.names env.cells []) := by
  unfold closureFor
  have key : ∀ (names : List (Str × NameKind)) (acc : List (Str × Addr)), (∀ p ∈ names, p.2 = .free → (env.cells.lookup p.1).isSome = true) →
      (forIn names acc fun x r => match x with
        | (name, kind) => if (kind == .free) = true then do
            let a ← cellOf env name
            pure (ForInStep.yield ((name, a) :: r))
          else pure (ForInStep.yield r)) = (pure (closOf names env.cells acc) : Sem _) := by
    intro names
    induction names with
    | nil => intro acc _; rfl
    | cons p r ih =>
      obtain ⟨x, k⟩ := p
      intro acc hh
      rw [List.forIn_cons]
      unfold closOf
      by_cases hk : (k == NameKind.free) = true
      · obtain ⟨a, ha⟩ := Option.isSome_iff_exists.mp (hh (x, k) (.head _) (by simpa using hk))
        have e : cellOf env x = pure a := by unfold cellOf; rw [ha]
        simp only [hk, if_true, e, pure_bind]
        rw [ih _ fun p hp => hh p (.tail _ hp), ha]
        rfl
      · simp only [hk, if_false, pure_bind]
        exact ih _ fun p hp => hh p (.tail _ hp)
  have := key scope.names [] h
  simp only [bind_pure_comp] at this ⊢
  rw [this]
  rfl
theorem mem_closOf {cells : List (Str × Nat)} {x : Str} {a : Nat} : ∀ {names : List (Str × NameKind)} {acc : List (Str × Nat)}, (x, a) ∈ closOf names cells acc ↔ (x, a) ∈ acc ∨ ((x, NameKind.free) ∈ names ∧ a = (cells.lookup x).getD 0)
  | [], acc => by simp [closOf]
  | (y, k) :: r, acc => by
    unfold closOf
    by_cases hk : (k == NameKind.free) = true
    · rw [if_pos hk, mem_closOf]
      have : k = .free := by simpa using hk
      subst this
      constructor
      · rintro (h | ⟨h, e⟩)
        · rcases List.mem_cons.mp h with h | h
          · cases h; exact .inr ⟨.head _, rfl⟩
          · exact .inl h
        · exact .inr ⟨.tail _ h, e⟩
      · rintro (h | ⟨h, e⟩)
        · exact .inl (.tail _ h)
        · rcases List.mem_cons.mp h with h | h
          · cases h; left; rw [e]; exact .head _
          · exact .inr ⟨h, e⟩
    · rw [if_neg hk, mem_closOf]
      constructor
      · rintro (h | ⟨h, e⟩)
        · exact .inl h
        · exact .inr ⟨.tail _ h, e⟩
      · rintro (h | ⟨h, e⟩)
        · exact .inl h
        · rcases List.mem_cons.mp h with h | h
          · cases h; exact absurd rfl hk
          · exact .inr ⟨h, e⟩
theorem closOf_names (cells : List (Str × Nat)) : ∀ (names : List (Str × NameKind)) (acc : List (Str × Nat)), (closOf names cells acc).map (·.1) = ((names.filter (·.2 == .free)).map (·.1)).reverse ++ acc.map (·.1)
  | [], acc => by simp [closOf]
  | (y, k) :: r, acc => by
    unfold closOf
    by_cases hk : (k == NameKind.free) = true
    · rw [if_pos hk, closOf_names cells r, List.filter_cons, if_pos hk]; simp
    · rw [if_neg hk, closOf_names cells r, List.filter_cons, if_neg hk]
def relab (scope sc : Scope) : Scope :=
  { scope with names := scope.names.map fun (n, k) => if (k == .free && sc.kind == .function && sc.names.lookup n == some .cell) then (n, .cell) else (n, k) }
def compOk (scope sc : Scope) (x : Str) : Bool :=
  scope.kind == .function && scope.names.all (fun p => p.2 != .cell && (p.2 != .local || p.1 == x || p.1 == (".0" : Str)) && (p.2 != .free || (sc.names.lookup p.1 == some .cell && p.1 != x && p.1 != (".0" : Str)))) && scope.names.lookup x == some .local &&
    decide ((scope.names.filter (·.2 == .free)).map (·.1)).Nodup && (scope.names.lookup (".0" : Str) == some .local || scope.names.all fun p => p.1 != (".0" : Str))
theorem compOk_dot {scope sc : Scope} {x : Str} (h : compOk scope sc x = true) : scope.names.lookup (".0" : Str) = some .local ∨ ∀ y ∈ scope.names, y.1 ≠ (".0" : Str) := by
  simp only [compOk, Bool.and_eq_true, beq_iff_eq, List.all_eq_true, bne_iff_ne, ne_eq, Bool.or_eq_true] at h
  exact h.2
structure CompOk (scope sc : Scope) (x : Str) : Prop where
  kind : scope.kind = .function
  nocell : ∀ p ∈ scope.names, p.2 ≠ .cell
  loc : ∀ p ∈ scope.names, p.2 = .local → p.1 = x ∨ p.1 = (".0" : Str)
  free : ∀ p ∈ scope.names, p.2 = .free → sc.names.lookup p.1 = some .cell ∧ p.1 ≠ x ∧ p.1 ≠ (".0" : Str)
  x : scope.names.lookup x = some .local
  nd : ((scope.names.filter (·.2 == .free)).map (·.1)).Nodup
theorem compOk_of {scope sc : Scope} {x : Str} (h : compOk scope sc x = true) : CompOk scope sc x := by
  simp only [compOk, Bool.and_eq_true, beq_iff_eq, List.all_eq_true, bne_iff_ne, ne_eq, Bool.or_eq_true, decide_eq_true_eq] at h
  obtain ⟨⟨⟨⟨h1, h2⟩, h3⟩, h4⟩, _⟩ := h
  refine ⟨h1, fun p hp => (h2 p hp).1.1, fun p hp e => ?_, fun p hp e => ?_, h3, h4⟩
  · rcases (h2 p hp).1.2 with (q | q) | q
    · exact absurd e q
    · exact .inl q
    · exact .inr q
  · rcases (h2 p hp).2 with q | q
    · exact absurd e q
    · exact ⟨q.1.1, q.1.2, q.2⟩
def compFm (f : Fm) (scope : Scope) (C : Nat) : Fm where
  A := f.A
  env := compEnvC scope (closOf scope.names f.env.cells []) C f.env
  top := f.top
  outer := f.outer
  slotted := frameAddrs (f.top :: f.outer)
  base := f.base
open Classical in
noncomputable def restC (σ : Hp) (s : Shared) (cl : List (Str × Nat)) : Nat → Option Obj := fun a => if Foot σ a ∨ ∃ x, (x, a) ∈ cl then none else s.heap.get? a
section
variable {c : Cx} {n : Nat} {f : Fm} {fr : Nat → Option Obj} {ρ : Lo} {σ : Hp} {z s : Shared} {scope : Scope} {x : Str}
theorem clos_mem (g : Good c n f fr) (ok : CompOk scope f.env.scope x) {y : Str} {a : Nat} (h : (y, a) ∈ closOf scope.names f.env.cells []) : (y, a) ∈ f.env.cells ∧ (y, NameKind.free) ∈ scope.names ∧ y ≠ x ∧ y ≠ (".0" : Str) := by
  rcases mem_closOf.mp h with h | ⟨h, e⟩
  · cases h
  · obtain ⟨h1, h2⟩ := ok.free _ h rfl
    obtain ⟨k, hk⟩ := Option.isSome_iff_exists.mp (g.celled y h1)
    rw [hk] at e
    exact ⟨e ▸ mem_lookup hk, h, h2⟩
theorem restC_of {cl : List (Str × Nat)} {a : Nat} {o : Obj} (h1 : ¬ Foot σ a) (h2 : ∀ y, (y, a) ∉ cl) (h3 : s.heap.get? a = some o) : restC σ s cl a = some o := by
  unfold restC; rw [if_neg (by rintro (q | ⟨y, q⟩); exact h1 q; exact h2 y q)]; exact h3
theorem restC_some {cl : List (Str × Nat)} {a : Nat} {o : Obj} (h : restC σ s cl a = some o) : s.heap.get? a = some o := by
  unfold restC at h; split at h; cases h; exact h
theorem restC_none {cl : List (Str × Nat)} {a : Nat} (h : s.heap.objs.size ≤ a) : restC σ s cl a = none := by
  cases e : restC σ s cl a with
  | none => rfl
  | some o => exact absurd (Heap.lt_size (restC_some e)) (Nat.not_lt.mpr h)
theorem Good.frameC (g : Good c n f fr) (R : c.Rel f ρ σ fr z s) (ok : CompOk scope f.env.scope x) : ∀ env ∈ f.top :: f.outer, env.scope.kind ≠ .module ∧ ∃ L o, env.frame = some L ∧ restC σ s (closOf scope.names f.env.cells []) L = some o ∧ (∀ vs, o.data ≠ .fields vs) ∧ f.base.get? L = none := by
  intro env he
  rcases List.mem_cons.mp he with rfl | he
  · refine ⟨by rw [g.topk.1]; (intro q; cases q), ?_⟩
    obtain ⟨L, hL, h, hb⟩ := g.topL
    rcases h with rfl | ⟨hs, o, ho, hd⟩
    · obtain ⟨m, ⟨o, es, ep, h1, h2, _⟩, _⟩ := R.ns
      exact ⟨_, o, hL, restC_of (fun hf => (R.apart _ hf).2.1 rfl) (fun y hy => (R.frame.2 _ _ (clos_mem g ok hy).1).2 rfl) h1, fun vs e => (by rw [h2] at e; cases e), hb⟩
    · obtain ⟨sl, h1, _⟩ := R.keep L o ho
      exact ⟨L, { o with slots := sl }, hL, restC_of (fun hf => by have := (R.apart _ hf).1; rw [ho] at this; cases this) (fun y hy => by have := (R.frame.2 _ _ (clos_mem g ok hy).1).1; rw [ho] at this; cases this) h1, hd, hb⟩
  · obtain ⟨hk, L, o, hL, hs, ho, hd⟩ := g.outer env he
    obtain ⟨sl, h1, _⟩ := R.keep L o ho
    exact ⟨hk, L, { o with slots := sl }, hL, restC_of (fun hf => by have := (R.apart _ hf).1; rw [ho] at this; cases this) (fun y hy => by have := (R.frame.2 _ _ (clos_mem g ok hy).1).1; rw [ho] at this; cases this) h1, hd, g.apart L hs⟩
theorem relab_cell {sc : Scope} {y : Str} : ∀ {names : List (Str × NameKind)}, (∀ p ∈ names, p.2 ≠ .cell) → (names.map fun (n, k) => if (k == NameKind.free && sc.kind == .function && sc.names.lookup n == some .cell) then (n, NameKind.cell) else (n, k)).lookup y = some .cell → (y, NameKind.free) ∈ names
  | [], _, h => by simp at h
  | (z, k) :: r, hc, h => by
    rw [List.map_cons] at h
    dsimp only at h
    split at h
    · rename_i hk
      rw [List.lookup_cons] at h
      cases q : (y == z) with
      | true =>
        have : k = .free := by simp only [Bool.and_eq_true, beq_iff_eq] at hk; exact hk.1.1
        rw [beq_iff_eq.mp q, this]; exact .head _
      | false => rw [q] at h; exact .tail _ (relab_cell (fun p hp => hc p (.tail _ hp)) h)
    · rw [List.lookup_cons] at h
      cases q : (y == z) with
      | true => rw [q] at h; cases h; exact absurd rfl (hc (z, .cell) (.head _))
      | false => rw [q] at h; exact .tail _ (relab_cell (fun p hp => hc p (.tail _ hp)) h)
theorem relab_local {sc : Scope} {y : Str} : ∀ {names : List (Str × NameKind)}, (names.map fun (n, k) => if (k == NameKind.free && sc.kind == .function && sc.names.lookup n == some .cell) then (n, NameKind.cell) else (n, k)).lookup y = some .local → (y, NameKind.local) ∈ names
  | [], h => by simp at h
  | (z, k) :: r, h => by
    rw [List.map_cons] at h
    dsimp only at h
    split at h
    · rw [List.lookup_cons] at h
      cases q : (y == z) with
      | true => rw [q] at h; cases h
      | false => rw [q] at h; exact .tail _ (relab_local h)
    · rw [List.lookup_cons] at h
      cases q : (y == z) with
      | true => rw [q] at h; cases h; rw [beq_iff_eq.mp q]; exact .head _
      | false => rw [q] at h; exact .tail _ (relab_local h)
theorem compFm_good (g : Good c n f fr) (R : c.Rel f ρ σ fr z s) (ok : CompOk scope f.env.scope x) {C : Nat} (hC : s.heap.objs.size ≤ C) : Good c n (compFm f scope C) (restC σ s (closOf scope.names f.env.cells [])) := by
  have hfr := g.frameC R ok
  have nm := closOf_names f.env.cells scope.names []
  exact {
    ok := g.ok
    base := fun a o e => by
      have h1 := g.base a o e
      exact restC_of (fun hf => by have := (R.apart a hf).1; rw [h1] at this; cases this) (fun y hy => by have := (R.frame.2 _ _ (clos_mem g ok hy).1).1; rw [h1] at this; cases this) (g.keep R a o e)
    apart := fun a ha => by
      obtain ⟨env, he, hf⟩ := List.mem_filterMap.mp ha
      obtain ⟨_, L, o, hL, _, _, hb⟩ := hfr env he
      rw [hL] at hf; cases hf; exact hb
    K := g.K
    top := g.top
    kind := ok.kind
    globals := g.globals
    celled := fun y hy => by
      have h1 := relab_cell ok.nocell hy
      have h2 : (y, (f.env.cells.lookup y).getD 0) ∈ closOf scope.names f.env.cells [] := mem_closOf.mpr (.inr ⟨h1, rfl⟩)
      show ((closOf scope.names f.env.cells []).lookup y).isSome = true
      cases e : (closOf scope.names f.env.cells []).lookup y with
      | some v => rfl
      | none =>
        have : ∀ (l : List (Str × Nat)), l.lookup y = none → ∀ v, (y, v) ∉ l := by
          intro l
          induction l with
          | nil => intro _ v h; cases h
          | cons p r ih =>
            obtain ⟨z', w'⟩ := p
            intro hl v hv
            rw [List.lookup_cons] at hl
            cases q : (y == z') with
            | true => rw [q] at hl; cases hl
            | false =>
              rw [q] at hl
              rcases List.mem_cons.mp hv with hv | hv
              · cases hv; simp at q
              · exact ih hl v hv
        exact absurd h2 (this _ e _)
    cellk := fun y k hy q => by
      obtain ⟨h1, h2, h3, h4⟩ := clos_mem g ok hy
      rcases ok.loc _ (relab_local q) rfl with q | q
      · exact h3 q
      · exact h4 q
    cellnd := by
      have hn1 : ((closOf scope.names f.env.cells []).map (·.1)).Nodup := by
        rw [nm]; simp only [List.map_nil, List.append_nil]
        exact (List.reverse_perm _).symm.nodup ok.nd
      refine ⟨?_, hn1, fun y k hy q => ?_⟩
      · show ((closOf scope.names f.env.cells []).map (·.2)).Nodup
        have inj : ∀ y y' a, (y, a) ∈ closOf scope.names f.env.cells [] → (y', a) ∈ closOf scope.names f.env.cells [] → y = y' := by
          intro y y' a h1 h2
          have h1 := (clos_mem g ok h1).1
          have h2 := (clos_mem g ok h2).1
          have : ∀ (l : List (Str × Nat)), (l.map (·.2)).Nodup → (y, a) ∈ l → (y', a) ∈ l → y = y' := by
            intro l
            induction l with
            | nil => intro _ h; cases h
            | cons p r ih =>
              intro hn ha hb
              simp only [List.map_cons, List.nodup_cons] at hn
              rcases List.mem_cons.mp ha with ha | ha <;> rcases List.mem_cons.mp hb with hb | hb
              · rw [← ha] at hb; cases hb; rfl
              · exact absurd (List.mem_map.mpr ⟨_, hb, by rw [← ha]⟩) hn.1
              · exact absurd (List.mem_map.mpr ⟨_, ha, by rw [← hb]⟩) hn.1
              · exact ih hn.2 ha hb
          exact this _ g.cellnd.1 h1 h2
        have : ∀ (l : List (Str × Nat)), (l.map (·.1)).Nodup → (∀ y y' a, (y, a) ∈ l → (y', a) ∈ l → y = y') → (l.map (·.2)).Nodup := by
          intro l
          induction l with
          | nil => intro _ _; simp
          | cons p r ih =>
            obtain ⟨y, a⟩ := p
            intro hn hi
            simp only [List.map_cons, List.nodup_cons] at hn ⊢
            refine ⟨fun hm => ?_, ih hn.2 fun y1 y2 a' h1 h2 => hi y1 y2 a' (.tail _ h1) (.tail _ h2)⟩
            obtain ⟨⟨y', a'⟩, hp, e⟩ := List.mem_map.mp hm
            dsimp only at e
            subst e
            have := hi y y' a' (.head _) (.tail _ hp)
            subst this
            exact hn.1 (List.mem_map.mpr ⟨_, hp, rfl⟩)
        exact this _ hn1 inj
      · have h1 := R.cel_lt (clos_mem g ok hy).1
        exact absurd (Nat.lt_of_lt_of_le h1 hC) (by rw [show k = C from q]; exact Nat.lt_irrefl _)
    builtins := g.builtins
    room := g.room
    units := g.units
    frames := g.frames
    topk := g.topk
    low := g.low
    slots := fun a ha => .inr ha
    topL := by
      obtain ⟨_, L, o, hL, hr, hd, hb⟩ := hfr f.top (.head _)
      exact ⟨L, hL, .inr ⟨List.mem_filterMap.mpr ⟨f.top, .head _, hL⟩, o, hr, hd⟩, hb⟩
    slotIn := fun a ha => by
      obtain ⟨env, he, hf⟩ := List.mem_filterMap.mp ha
      obtain ⟨_, L, o, hL, hr, _, _⟩ := hfr env he
      rw [hL] at hf; cases hf; exact ⟨o, hr⟩
    home := g.home
    outer := fun env he => by
      obtain ⟨h1, L, o, hL, hr, hd, hb⟩ := hfr env (.tail _ he)
      exact ⟨h1, L, o, hL, List.mem_filterMap.mpr ⟨env, .tail _ he, hL⟩, hr, hd⟩ }
theorem compFm_rel (g : Good c n f fr) (R : c.Rel f ρ σ fr z s) (ok : CompOk scope f.env.scope x) (h0 : ρ (".0" : Str) = none) {C : Nat} (hC : s.heap.objs.size ≤ C) {h' : Heap} {tk : Nat} (kp : ∀ b o, s.heap.get? b = some o → h'.get? b = some o) (hn : h'.Ns C fun _ => none) :
    c.Rel (compFm f scope C) (fun y => if y = x then none else ρ y) σ (restC σ s (closOf scope.names f.env.cells [])) z { s with heap := h', toks := tk } where
  same := R.same
  keep := fun a o e => ⟨o.slots, kp a o (restC_some e), fun _ => rfl⟩
  objs := fun a t mo e => (R.objs a t mo e).keeps kp
  wf := R.wf
  apart := fun a hf => ⟨by unfold restC; rw [if_pos (.inl hf)], Nat.ne_of_lt (Nat.lt_of_lt_of_le (R.foot_lt hf) hC), fun y k hy => (R.apart a hf).2.2 y k (clos_mem g ok hy).1⟩
  ns := ⟨_, hn, fun y hy => by
    rcases ok.loc _ (relab_local hy) rfl with q | q
    · dsimp only at q; subst q; rw [if_pos rfl]; trivial
    · dsimp only at q; subst q; rw [h0]; split <;> trivial⟩
  cel := fun y k hy => by
    obtain ⟨h1, h2, h3, _⟩ := clos_mem g ok hy
    obtain ⟨o, v, e, r⟩ := R.cel y k h1
    refine ⟨o, v, kp _ _ e, ?_⟩
    rw [if_neg h3]; exact r
  frame := ⟨restC_none hC, fun y k hy => ⟨by unfold restC; rw [if_pos (.inr ⟨y, hy⟩)], by
    have := Nat.lt_of_lt_of_le (R.cel_lt (clos_mem g ok hy).1) hC
    exact Nat.ne_of_lt this⟩⟩
  kl := R.kl
theorem Rel.backC (g : Good c n f fr) (R : c.Rel f ρ σ fr z s) (ok : CompOk scope f.env.scope x) {C : Nat} {ρ' : Lo} {σ' : Hp} {s' : Shared} (R' : c.Rel (compFm f scope C) ρ' σ' (restC σ s (closOf scope.names f.env.cells [])) z s') (hρ : ∀ y, y ≠ x → ρ' y = ρ y) : c.Rel f ρ σ' fr z s' := by
  have nf : ∀ {a : Nat} {o : Obj}, fr a = some o → ¬ Foot σ a := fun e h => by have := (R.apart _ h).1; rw [e] at this; cases this
  have nL : ¬ Foot σ f.env.locals := fun h => (R.apart _ h).2.1 rfl
  have nC : ∀ {x k}, (x, k) ∈ f.env.cells → ¬ Foot σ k := fun hk h => (R.apart _ h).2.2 _ _ hk rfl
  have frc : ∀ {a : Nat} {o : Obj}, fr a = some o → ∀ y, (y, a) ∉ closOf scope.names f.env.cells [] := fun e y hy => by have := (R.frame.2 _ _ (clos_mem g ok hy).1).1; rw [e] at this; cases this
  have Lc : ∀ y, (y, f.env.locals) ∉ closOf scope.names f.env.cells [] := fun y hy => (R.frame.2 _ _ (clos_mem g ok hy).1).2 rfl
  obtain ⟨m, ⟨oL, es, ep, h1, h2⟩, hm⟩ := R.ns
  refine ⟨R'.same, fun a o e => ?_, R'.objs, R'.wf, fun a hf => ⟨?_, ?_, fun y k hk => ?_⟩, ?_, fun y k hk => ?_, R.frame, R'.kl⟩
  · obtain ⟨sl, e1, e2⟩ := R.keep a o e
    obtain ⟨sl', e3, e4⟩ := R'.keep a _ (restC_of (nf e) (frc e) e1)
    refine ⟨sl', e3, fun ha => ?_⟩
    rw [e4 fun hm => ?_, ← e2 ha]
    rcases g.slots a hm with rfl | h
    · have := R.frame.1; rw [show fr f.L = fr f.env.locals from rfl, e] at this; cases this
    · exact ha h
  · cases e : fr a with
    | none => rfl
    | some o =>
      obtain ⟨sl, e1, _⟩ := R.keep a o e
      have := (R'.apart a hf).1
      rw [restC_of (nf e) (frc e) e1] at this; cases this
  · intro q
    have := (R'.apart a hf).1
    rw [q, restC_of nL Lc h1] at this; cases this
  · intro q
    subst q
    by_cases hy : ∃ y', (y', a) ∈ closOf scope.names f.env.cells []
    · obtain ⟨y', hy'⟩ := hy; exact (R'.apart a hf).2.2 y' a hy' rfl
    · obtain ⟨o, v, e1, _⟩ := R.cel y a hk
      have := (R'.apart a hf).1
      rw [restC_of (nC hk) (fun y' h => hy ⟨y', h⟩) e1] at this; cases this
  · obtain ⟨sl, e1, _⟩ := R'.keep _ _ (restC_of nL Lc h1)
    exact ⟨m, ⟨_, es, ep, e1, h2⟩, hm⟩
  · by_cases hy : ∃ y', (y', k) ∈ closOf scope.names f.env.cells []
    · obtain ⟨y', hy'⟩ := hy
      have h3 := clos_mem g ok hy'
      have : y' = y := by
        have : ∀ (l : List (Str × Nat)), (l.map (·.2)).Nodup → (y', k) ∈ l → (y, k) ∈ l → y' = y := by
          intro l
          induction l with
          | nil => intro _ h; cases h
          | cons p r ih =>
            intro hn ha hb
            simp only [List.map_cons, List.nodup_cons] at hn
            rcases List.mem_cons.mp ha with ha | ha <;> rcases List.mem_cons.mp hb with hb | hb
            · rw [← ha] at hb; cases hb; rfl
            · exact absurd (List.mem_map.mpr ⟨_, hb, by rw [← ha]⟩) hn.1
            · exact absurd (List.mem_map.mpr ⟨_, ha, by rw [← hb]⟩) hn.1
            · exact ih hn.2 ha hb
        exact this _ g.cellnd.1 h3.1 hk
      subst this
      obtain ⟨o, v, e1, d, r⟩ := R'.cel y' k hy'
      rw [hρ y' h3.2.2.1] at r
      exact ⟨o, v, e1, d, r⟩
    · obtain ⟨o, v, e1, d, r⟩ := R.cel y k hk
      obtain ⟨sl, e2, _⟩ := R'.keep _ _ (restC_of (nC hk) (fun y' h => hy ⟨y', h⟩) e1)
      exact ⟨_, v, e2, d, r⟩
end
end Mine
open PySem PySem.W PyProof.Rows
namespace Mine
def WTs (c : Cx) (i : Ix) : List Expr → Lo → (Bool → Hp → Prop) → EX → Hp → Prop
  | [], _, Q, _, σ => Q true σ
  | [t], ρ, Q, X, σ => WT c i t ρ Q X σ
  | _, _, _, _, _ => False
def WComp (c : Cx) (i : Ix) (x : Str) (elt : Expr) (ifs : List Expr) (still : Hp → Prop) (Q : List MV → Hp → Prop) (ρ : Lo) : List MV → List MV → Hp → Prop
  | [], acc, σ => still σ ∧ Q acc σ
  | v :: vs, acc, σ => still σ ∧ WTs c i ifs (ρ.put x v) (fun b σ₁ => if b then WE c i elt (ρ.put x v) (fun u σ₂ => WComp c i x elt ifs still Q ρ vs (acc ++ [u]) σ₂) noX σ₁ else WComp c i x elt ifs still Q ρ vs acc σ₁) noX σ
theorem noX_elim {c : Cx} {f : Fm} {fr : Nat → Option Obj} {z : Shared} {ρ : Lo} {v : Value} {s : Shared} {P : Prop} (h : XPost c f fr z (noX.at ρ) v s) : P := let ⟨_, _, _, _, _, _, _, _, q⟩ := h; q.elim
section
variable {c : Cx} {i : Ix} {ρ : Lo} {σ : Hp} {f : Fm} {fr : Nat → Option Obj} {z s : Shared} {scope : Scope} {x : Str}
abbrev Ix.comp (i : Ix) (scope : Scope) : Ix := ⟨i.n, i.hn, relab scope i.sc⟩
theorem Rel.of_eq {s' : Shared} (R : c.Rel f ρ σ fr z s) (e : s' = s) : c.Rel f ρ σ fr z s' := e ▸ R
theorem comp_code (hn : i.hn = true) {px : Pos} {elt iter : Expr} {ifs : List Expr} {pos : Pos} {I : Nat} {It : Nat → Heap → Prop} {items : List MV} {still : Hp → Prop} (T : Steps c I It items still) {Qc : List MV → Hp → Prop} {E : Value → Shared → Prop}
    (a : f.env.scope = i.sc) (b : i.hn = true → f.A.handled = none) (g : Good c i.n f fr) (R : c.Rel f ρ σ fr z s) (ok : CompOk scope f.env.scope x) (h0 : ρ (".0" : Str) = none) {h₂ : Heap} (kp : ∀ b o, s.heap.get? b = some o → h₂.get? b = some o)
    (hI : s.heap.objs.size ≤ I) (hI2 : I < h₂.objs.size) (hz : items.length ≤ 1000000) (it : It 0 h₂) (h : WComp c (i.comp scope) x elt ifs still Qc ρ items [] σ) {RR : Value → Nat → Result → Shared → Prop}
    (hRR : ∀ D C vs σ' its k m s', c.Rel f ρ σ' fr z s' → s'.heap.get? D = some (listOf its k) → All2 MV.Is vs its.toList → Alien f σ' fr D → Alien f σ' fr C → D ≠ C → s'.heap.Ns C m → Qc vs σ' → RR (.ref D) C (.ok .next) s') :
    wpAny c.M f.A (newList []) (fun acc s₃ => wpAny c.M f.A (newFunctionEnv scope f.env.globals (closOf scope.names f.env.cells []) [] f.env.qual none .none (some f.env)) (fun cenv s₄ =>
      codeAny c.M f.A (.compStart (.ListComp elt [⟨.Name x px, iter, ifs, 0⟩] scope pos) 0 (.ref I) acc { cenv with scope := relabel scope f.env }) (RR acc cenv.locals) s₄) E s₃) E { s with heap := h₂ } := by
  refine wpAny_newObj_type (wpAny_newFunctionEnv ok.nocell (by intro y hy; simp at hy) (fun h₁ hns₁ hsb₁ => ?_) ok.kind)
  dsimp only at hns₁ hsb₁ ⊢
  generalize hH2 : h₂.push { cls := .type "list", dict := none, data := .seq ([] : List Value).toArray } = H2 at hns₁ hsb₁ ⊢
  have hsz : s.heap.objs.size < h₂.objs.size := Nat.lt_of_le_of_lt hI hI2
  generalize hD : h₂.objs.size = D at *
  have hDs : s.heap.objs.size ≤ D := Nat.le_of_lt hsz
  have hCeq : H2.objs.size = D + 1 := by rw [← hH2, Heap.size_push, hD]
  generalize hCC : H2.objs.size = C at *
  have hDC : D ≠ C := by rw [hCeq]; exact (Nat.succ_ne_self D).symm
  have hCs : s.heap.objs.size ≤ C := by rw [hCeq]; exact Nat.le_succ_of_le hDs
  have old : ∀ b o, h₂.get? b = some o → h₁.get? b = some o := fun b o e => (hsb₁.2 b (by have h5 : b < D := hD ▸ Heap.lt_size e; have h6 : b < C := (by rw [hCeq]; exact Nat.lt_succ_of_lt h5); exact Nat.ne_of_lt h6)).trans (Heap.get?_push_of_some _ (hH2 ▸ Heap.get?_push_of_some _ e))
  have hacc : h₁.get? D = some (listOf #[] 0) := (hsb₁.2 D (by show D ≠ C; exact hDC)).trans (Heap.get?_push_of_some _ (by rw [← hH2, ← hD]; exact Heap.get?_push_size _ rfl))
  have G' := compFm_good g R ok hCs
  have R0 : c.Rel (compFm f scope C) (fun y => if y = x then none else ρ y) σ (restC σ s (closOf scope.names f.env.cells [])) z { s with heap := h₁, toks := s.toks + ([] : List (Str × Value)).length } := compFm_rel g R ok h0 hCs (fun b o e => old b o (kp b o e)) hns₁
  have frN : ∀ a, s.heap.objs.size ≤ a → restC σ s (closOf scope.names f.env.cells []) a = none := fun a ha => restC_none ha
  have nsl : ∀ a, s.heap.objs.size ≤ a → a ∉ (compFm f scope C).slotted := fun a ha h => by obtain ⟨o, e⟩ := G'.slotIn a h; rw [frN a ha] at e; cases e
  have clt : ∀ y k, (y, k) ∈ (compFm f scope C).env.cells → k < s.heap.objs.size := fun y k hy => R.cel_lt (clos_mem g ok hy).1
  have mkAl : ∀ {σ' : Hp} {a : Nat}, s.heap.objs.size ≤ a → a ≠ C → ¬ Foot σ' a → Alien (compFm f scope C) σ' (restC σ s (closOf scope.names f.env.cells [])) a := fun ha hc hf =>
    ⟨frN _ ha, hf, hc, fun y k hy q => by have h7 := clt y k hy; rw [← q] at h7; exact absurd h7 (Nat.not_lt.mpr ha)⟩
  have hIC : I ≠ C := by rw [hCeq]; exact Nat.ne_of_lt (Nat.lt_succ_of_lt hI2)
  have hID : I ≠ D := Nat.ne_of_lt hI2
  have sc' : (compFm f scope C).env.scope = (i.comp scope).sc := by show relabel scope f.env = relab scope i.sc; rw [← a]; rfl
  have hxl : (i.comp scope).sc.names.lookup x = some .local := by rw [← sc']; exact lookup_relabel_local ok.x
  have loop : codeAny c.M f.A (.compLoop (.ListComp elt [⟨.Name x px, iter, ifs, 0⟩] scope pos) 0 (.ref I) (.ref D) (compFm f scope C).env) (RR (.ref D) C) { s with heap := h₁, toks := s.toks + ([] : List (Str × Value)).length } := by
    refine codeAny_compLoop_tests (fun m s' => ∃ j ρ' σ' vs its k, m + j = items.length ∧ It j s'.heap ∧ c.Rel (compFm f scope C) ρ' σ' (restC σ s (closOf scope.names f.env.cells [])) z s' ∧ (∀ y, y ≠ x → ρ' y = ρ y) ∧ ¬ Foot σ' I ∧ ¬ Foot σ' D ∧
      s'.heap.get? D = some (listOf its k) ∧ All2 MV.Is vs its.toList ∧ its.size ≤ j ∧ WComp c (i.comp scope) x elt ifs still Qc ρ (items.drop j) vs σ') ?_ items.length
      ⟨0, _, σ, [], #[], 0, by simp, T.move _ _ _ it fun o e => old _ _ e, R0, fun y hy => if_neg hy, fun hf => absurd (R.foot_lt hf) (Nat.not_lt.mpr hI), fun hf => absurd (R.foot_lt hf) (Nat.not_lt.mpr hDs), hacc, .nil, Nat.zero_le _, by simpa using h⟩
    rintro m s' ⟨j, ρ', σ', vs, its, k, hmj, it', R', hρ, fI, fD, hl, hv, hits, h'⟩
    have alI := mkAl hI hIC fI
    have alD := mkAl hDs hDC fD
    cases e : items[j]? with
    | none =>
      have el : items.drop j = [] := by rw [List.drop_eq_nil_iff]; exact List.getElem?_eq_none_iff.mp e
      rw [el] at h'
      refine T.done R' (b hn) h'.1 it' e fun h₃ tk k₃ => ?_
      have R3 := R'.alien (tk := tk) alI (Alien.none G' R' alI) k₃
      obtain ⟨m', hn', _⟩ := R3.ns
      have fC : ¬ Foot σ' C := fun hf => (R3.apart C hf).2.1 rfl
      exact hRR D C vs σ' its k m' _ (Rel.backC g R ok R3 hρ) (k₃ _ _ (Ne.symm hID) hl) hv (R.alienAt hDs fD) (R.alienAt hCs fC) hDC hn' h'.2
    | some v =>
      obtain ⟨hlt, rfl⟩ := List.getElem?_eq_some_iff.mp e
      rw [List.drop_eq_getElem_cons hlt] at h'
      refine T.item R' (b hn) h'.1 it' e fun u h₃ tk is it₃ k₃ => ?_
      have R3 := R'.alien (tk := tk) alI (Alien.none G' R' alI) k₃
      have hl3 : h₃.get? D = some (listOf its k) := k₃ _ _ (Ne.symm hID) hl
      obtain ⟨oI, hoI, _⟩ := T.obj _ _ it₃
      have R4 := R3.add alI hoI
      have alD4 : Alien (compFm f scope C) σ' (addFr (restC σ s (closOf scope.names f.env.cells [])) I oI) D := ⟨by rw [addFr_ne (Ne.symm hID)]; exact alD.fr, alD.foot, alD.L, alD.cells⟩
      have R5 := R4.add alD4 hl3
      have G5 := (G'.add (o := oI) alI.fr).add (o := listOf its k) alD4.fr
      have eρ : ρ'.put x items[j] = ρ.put x items[j] := by
        funext y
        unfold Lo.put
        by_cases q : y = x
        · rw [if_pos q, if_pos q]
        · rw [if_neg q, if_neg q]; exact hρ y q
      refine wpAny_assign_Name (wpAny_mono (WSt.local (i := i.comp scope) (Q := fun ρ₁ σ₁ => ρ₁ = ρ.put x items[j] ∧ σ₁ = σ') (X := noSX) hxl ⟨eρ, rfl⟩ u is (compFm f scope C) _ z _ sc' b G5 R5) (fun _ s₆ ⟨ρ₆, σ₆, R6, e1, e2⟩ => ?_) fun _ _ x => noSX_elim x)
      subst e1; subst e2
      -- back from the frames of the iterator and the list
      have out : ∀ {σ'' : Hp} {s'' : Shared}, c.Rel (compFm f scope C) (ρ.put x items[j]) σ'' (addFr (addFr (restC σ s (closOf scope.names f.env.cells [])) I oI) D (listOf its k)) z s'' →
          c.Rel (compFm f scope C) (ρ.put x items[j]) σ'' (restC σ s (closOf scope.names f.env.cells [])) z s'' ∧ Alien (compFm f scope C) σ'' (restC σ s (closOf scope.names f.env.cells [])) I ∧ Alien (compFm f scope C) σ'' (restC σ s (closOf scope.names f.env.cells [])) D ∧ s''.heap.get? I = some oI ∧ s''.heap.get? D = some (listOf its k) := fun R7 => by
        obtain ⟨R8, al8, ho8⟩ := Rel.drop alD4.fr R7 (nsl D hDs)
        obtain ⟨R9, al9, ho9⟩ := Rel.drop alI.fr R8 (nsl I hI)
        exact ⟨R9, al9, mkAl hDs hDC al8.foot, ho9, ho8⟩
      have eρ2 : ∀ y, y ≠ x → (ρ.put x items[j]) y = ρ y := fun y hy => by unfold Lo.put; rw [if_neg hy]
      have again : ∀ {σ'' : Hp} {s'' : Shared} {vs' : List MV} {its' : Array Value} {k' : Nat}, c.Rel (compFm f scope C) (ρ.put x items[j]) σ'' (restC σ s (closOf scope.names f.env.cells [])) z s'' → ¬ Foot σ'' I → ¬ Foot σ'' D → s''.heap.get? I = some oI → s''.heap.get? D = some (listOf its' k') → All2 MV.Is vs' its'.toList → its'.size ≤ j + 1 → WComp c (i.comp scope) x elt ifs still Qc ρ (items.drop (j + 1)) vs' σ'' →
          ∃ m', m' < m ∧ ∃ j ρ' σ' vs its k, m' + j = items.length ∧ It j s''.heap ∧ c.Rel (compFm f scope C) ρ' σ' (restC σ s (closOf scope.names f.env.cells [])) z s'' ∧ (∀ y, y ≠ x → ρ' y = ρ y) ∧ ¬ Foot σ' I ∧ ¬ Foot σ' D ∧
      s''.heap.get? D = some (listOf its k) ∧ All2 MV.Is vs its.toList ∧ its.size ≤ j ∧ WComp c (i.comp scope) x elt ifs still Qc ρ (items.drop j) vs σ' := fun R9 f1 f2 o1 o2 hv' hz' hw => by
        refine ⟨m - 1, by omega, j + 1, _, _, _, _, _, by omega, T.move _ _ _ it₃ fun o' e' => ?_, R9, eρ2, f1, f2, o2, hv', hz', hw⟩
        rw [hoI] at e'; cases e'; exact o1
      have tests : ∀ {Qt : Bool → Hp → Prop} {s₆ : Shared}, c.Rel (compFm f scope C) (ρ.put x items[j]) σ₆ (addFr (addFr (restC σ s (closOf scope.names f.env.cells [])) I oI) D (listOf its k)) z s₆ → WTs c (i.comp scope) ifs (ρ.put x items[j]) Qt noX σ₆ → ∀ E', wpAny c.M f.A (forIn ifs true fun c r => if r = true then do let ok ← isTrue c (compFm f scope C).env (eval c (compFm f scope C).env); pure (ForInStep.yield ok) else pure (ForInStep.yield r))
          (fun ok s₇ => ∃ σ₇, c.Rel (compFm f scope C) (ρ.put x items[j]) σ₇ (addFr (addFr (restC σ s (closOf scope.names f.env.cells [])) I oI) D (listOf its k)) z s₇ ∧ Qt ok σ₇) E' s₆ := fun R6 ht E' => by
        rcases ifs with _ | ⟨t, _ | ⟨t', r⟩⟩
        · exact wpAny_tests_nil ⟨_, R6, ht⟩
        · refine wpAny_tests_one (wuse (ht (compFm f scope C) _ z _ sc' b G5 R6) (fun bb s₇ b' σ₇ eb R7 hq => ?_) fun _ _ x => noX_elim x)
          subst eb
          exact ⟨σ₇, R7, hq⟩
        · exact ht.elim
      refine wpAny_mono (tests R6 h'.2 _) (fun okb s₇ ⟨σ₇, R7, hq⟩ => ?_) fun _ _ x => x
      cases okb with
      | false =>
        rw [if_neg Bool.false_ne_true] at hq ⊢
        obtain ⟨R9, al9, al8, ho9, ho8⟩ := out R7
        exact again R9 al9.foot al8.foot ho9 ho8 hv (Nat.le_succ_of_le hits) hq
      | true =>
        rw [if_pos rfl] at hq ⊢
        refine wuse (hq (compFm f scope C) _ z _ sc' b G5 R7) (fun y s₈ ym σ₈ isy R8 hq8 => ?_) fun _ _ x => noX_elim x
        obtain ⟨R9, al9, al8, ho9, ho8⟩ := out R8
        refine append_at ho8 (fun h₉ hs₉ hl₉ => ?_) (size_ok (by omega))
        have R10 := R9.alien (tk := s₈.toks) al8 (Alien.none G' R9 al8) (h' := h₉) fun a o ne e => (hs₉.2 a ne).trans e
        refine again R10 al9.foot al8.foot ((hs₉.2 I hID).trans ho9) hl₉ ?_ (by rw [Array.size_push]; omega) hq8
        rw [Array.toList_push]
        exact hv.append (.cons isy .nil)
  exact codeAny_compStart_list loop (T.self (k := 0) (T.move _ _ _ it fun o e => old _ _ e) loop)
theorem Rel.adopt (R : c.Rel f ρ σ fr z s) {D : Nat} {its : Array Value} {k : Nat} {vs : List MV} (t : Nat) (al : Alien f σ fr D) (ho : s.heap.get? D = some (listOf its k)) (hv : All2 MV.Is vs its.toList) : c.Rel f ρ (σ.put D t (.list vs)) fr z s where
  same := R.same
  keep := R.keep
  objs := fun a t' mo e => by
    by_cases q : a = D
    · subst q; rw [Hp.put_self] at e; cases e; exact ⟨its, k, ho, hv⟩
    · rw [Hp.put_ne _ _ _ q] at e; exact R.objs a t' mo e
  wf := fun a t' C fs e => by
    by_cases q : a + 1 = D
    · rw [q, Hp.put_self] at e; cases e
    · rw [Hp.put_ne _ _ _ q] at e
      by_cases q' : a = D
      · subst q'; exact absurd (.inr ⟨_, _, _, e⟩) al.foot
      · rw [Hp.put_ne _ _ _ q']; exact R.wf a t' C fs e
  apart := fun a fa => by
    by_cases q : a = D
    · subst q; exact ⟨al.fr, al.L, al.cells⟩
    · refine R.apart a ?_
      rcases fa with ⟨t₁, mo₁, fa, fk⟩ | ⟨t₁, C, fs, e⟩
      · rw [Hp.put_ne _ _ _ q] at fa; exact .of_some fa fk
      · by_cases q' : a + 1 = D
        · rw [q', Hp.put_self] at e; cases e
        · rw [Hp.put_ne _ _ _ q'] at e; exact .inr ⟨_, _, _, e⟩
  ns := R.ns
  cel := R.cel
  frame := R.frame
  kl := fun a t' xs o e => by
    by_cases q : a = D
    · subst q; rw [Hp.put_self] at e; cases e
    · rw [Hp.put_ne _ _ _ q] at e; exact R.kl a t' xs o e
theorem Alien.sigma {n : Nat} (g : Good c n f fr) (R : c.Rel f ρ σ fr z s) {D : Nat} (al : Alien f σ fr D) : σ D = Option.none := by
  cases e : σ D with
  | none => rfl
  | some p => exact absurd e (Alien.none g R al p.1 p.2)
variable {X : EX}
theorem CompOk.names (ok : CompOk scope i.sc x) (hd0 : scope.names.lookup (".0" : Str) = some .local ∨ ∀ y ∈ scope.names, y.1 ≠ (".0" : Str)) : ∀ y ∈ scope.names, y.2 = .local → scope.names.lookup y.1 = some .local := fun y hy e => by
  rcases ok.loc y hy e with q | q
  · rw [q]; exact ok.x
  · rcases hd0 with h | h
    · rw [q]; exact h
    · exact absurd q (h y hy)
theorem CompOk.clos (ok : CompOk scope f.env.scope x) {n : Nat} (g : Good c n f fr) : closureFor scope f.env = pure (closOf scope.names f.env.cells []) := closureFor_eq fun p hp e => g.celled p.1 (ok.free p hp e).1
theorem WE.comp {px : Pos} {elt iter : Expr} {ifs : List Expr} {pos : Pos} {Q : MV → Hp → Prop} (t : Nat) (hn : i.hn = true) (hs : NotSet iter) (hok : compOk scope i.sc x = true) (h0 : ρ (".0" : Str) = Option.none)
    (h : WE c i iter ρ (fun v σ₁ => ∃ xs still, Iterable σ₁ v xs still ∧ xs.length ≤ 1000000 ∧ WComp c (i.comp scope) x elt ifs still (fun vs σ₂ => ∀ D, σ₂ D = Option.none → Q (.ref D) (σ₂.put D t (.list vs))) ρ xs [] σ₁) X σ) :
    WE c i (.ListComp elt [⟨.Name x px, iter, ifs, 0⟩] scope pos) ρ Q X σ := fun f fr z s a b g R => by
  have ok : CompOk scope f.env.scope x := by rw [a]; exact compOk_of hok
  show wpAny _ _ (eval _ _) _ _ _
  rw [eval_ListComp]
  refine wpAny_comprehension_free (use := Option.none) rfl (by intro x; exact hs _ x) (ok.clos g) ok.kind (by rw [a] at ok; exact ok.names (compOk_dot hok)) (wpAny_mono (h f fr z s a b g R) (fun u s₁ ⟨v, σ₁, is, R₁, xs, still, itb, hz, h₁⟩ => ?_) fun _ _ x => x)
  refine iter_start R₁ itb is fun I It h₂ T hI hI2 kp it => ?_
  refine comp_code hn T a b g R₁ ok h0 kp hI hI2 hz it h₁ (RR := fun acc C => compPost _ _ _ Option.none _ acc C) ?_
  intro D C vs σ' its k m s' R' hD hv alD alC hDC hnC hQ
  refine ⟨m, hnC, fun h' hs' => ?_⟩
  have R'' := R'.alien (tk := s'.toks) alC (Alien.none g R' alC) (h' := h') fun a o ne e => (hs'.2 a ne).trans e
  exact ⟨.ref D, _, rfl, Rel.adopt R'' t alD ((hs'.2 D hDC).trans hD) hv, hQ D (Alien.sigma g R' alD)⟩
variable {X : SX}
theorem WS.assignComp {y : Str} {py px : Pos} {elt iter : Expr} {ifs : List Expr} {pos spos : Pos} {Q : MF → Lo → Hp → Prop} (t : Nat) (hn : i.hn = true) (hs : NotSet iter) (hok : compOk scope i.sc x = true) (h0 : ρ (".0" : Str) = Option.none)
    (hy : i.sc.names.lookup y = some .local) (hline : (py.line == pos.line && !(scope.names.any fun (n, k) => n == y && (k == .local || k == .cell))) = true)
    (h : WE c i iter ρ (fun v σ₁ => ∃ xs still, Iterable σ₁ v xs still ∧ xs.length ≤ 1000000 ∧ WComp c (i.comp scope) x elt ifs still (fun vs σ₂ => ∀ D, σ₂ D = Option.none → Q .next (ρ.put y (.ref D)) (σ₂.put D t (.list vs))) ρ xs [] σ₁) (X.ex ρ) σ) :
    WS c i (.Assign [.Name y py] (.ListComp elt [⟨.Name x px, iter, ifs, 0⟩] scope pos) spos) ρ Q X σ := fun f fr z s a b g R => by
  have ok : CompOk scope f.env.scope x := by rw [a]; exact compOk_of hok
  have hsw : swapsWith (.ListComp elt [⟨.Name x px, iter, ifs, 0⟩] scope pos) (some (.Name y py)) spos.line f.env = pure true := by
    unfold swapsWith
    have e1 : f.env.blockKind = .function := by unfold Env.blockKind; rw [g.kind]; rfl
    have e2 : f.env.kindOf y = some .local := kindAt a hy
    dsimp only
    rw [e1, e2]
    simp only [Bool.and_eq_true] at hline
    show (pure (((ScopeKind.function == ScopeKind.function) && (some NameKind.local == some NameKind.local) && (py.line == pos.line)) && _) : Sem Bool) = pure true
    rw [hline.1, hline.2]; rfl
  show wpAny _ _ (exec _ _) _ _ _
  rw [exec_Assign_Name_used _ _ _ _ hsw]
  refine wpAny_bind (wpAny_standAt (wpAny_bind ?_))
  show wpAny _ f.A (do let _ ← comprehension (.ListComp elt [⟨.Name x px, iter, ifs, 0⟩] scope pos) scope f.env _ (newList []) false (eval iter f.env) (some (PySem.assign (.Name y py) f.env))) _ _ s
  refine wpAny_bind (wpAny_mono (wpAny_comprehension_free (use := some (PySem.assign (.Name y py) f.env)) (Q := fun _ s' => ∃ m ρ' σ', MF.Is m .next ∧ c.Rel f ρ' σ' fr z s' ∧ Q m ρ' σ') rfl (by intro x; exact hs _ x) (ok.clos g) ok.kind (by rw [a] at ok; exact ok.names (compOk_dot hok))
    (wpAny_mono (h f fr z s a b g R) (fun u s₁ ⟨v, σ₁, is, R₁, xs, still, itb, hz, h₁⟩ => ?_) fun _ _ x => Ex.at x)) (fun _ s' hq => wpAny_pure (wpAny_pure hq)) fun _ _ e => e)
  refine iter_start R₁ itb is fun I It h₂ T hI hI2 kp it => ?_
  refine comp_code hn T a b g R₁ ok h0 kp hI hI2 hz it h₁ (RR := fun acc C => compPost _ _ _ (some (PySem.assign (.Name y py) f.env)) _ acc C) ?_
  intro D C vs σ' its k m s' R' hD hv alD alC hDC hnC hQ
  have R2 := Rel.adopt R' t alD hD hv
  have nC : C ∉ f.slotted := fun h => by obtain ⟨o, e⟩ := g.slotIn C h; rw [alC.fr] at e; cases e
  have alC2 : Alien f (σ'.put D t (.list vs)) fr C := ⟨alC.fr, fun hf => by
    rcases hf with ⟨t₁, mo₁, fa, fk⟩ | ⟨t₁, C', fs, e⟩
    · rw [Hp.put_ne _ _ _ (Ne.symm hDC)] at fa; exact alC.foot (.of_some fa fk)
    · by_cases q' : C + 1 = D
      · rw [q', Hp.put_self] at e; cases e
      · rw [Hp.put_ne _ _ _ q'] at e; exact alC.foot (.inr ⟨_, _, _, e⟩), alC.L, alC.cells⟩
  obtain ⟨oC, es, ep, hoC, hrC⟩ := hnC
  have R3 := R2.add alC2 hoC
  show wpAny _ _ (PySem.assign (.Name y py) f.env (.ref D)) _ _ _
  refine wpAny_assign_Name (wpAny_mono (WSt.local (X := noSX) (Q := fun ρ₁ σ₁ => ρ₁ = ρ.put y (.ref D) ∧ σ₁ = σ'.put D t (.list vs)) hy ⟨rfl, rfl⟩ (.ref D) rfl f _ z _ a b (g.add alC.fr) R3) (fun _ s₆ ⟨ρ₆, σ₆, R6, e1, e2⟩ => ?_) fun _ _ x => noSX_elim x)
  subst e1; subst e2
  obtain ⟨R7, al7, ho7⟩ := Rel.drop alC.fr R6 nC
  refine ⟨m, ⟨oC, es, ep, ho7, hrC⟩, fun h' hs' => ?_⟩
  have R8 := R7.alien (tk := s₆.toks) al7 (Alien.none g R7 al7) (h' := h') fun a o ne e => (hs'.2 a ne).trans e
  exact ⟨.next, _, _, rfl, R8, hQ D (Alien.sigma g R' alD)⟩
theorem WS.assignComp2 {y : Str} {py : Pos} {e : Expr} {spos : Pos} {Q : MF → Lo → Hp → Prop} {px : Pos} {elt iter : Expr} {ifs : List Expr} {pos : Pos} (he : e = .ListComp elt [⟨.Name x px, iter, ifs, 0⟩] scope pos) (hy : (i.sc.names.lookup y == some .local && py.line == pos.line && !(scope.names.any fun (n, k) => n == y && (k == .local || k == .cell))) = false)
    (h : WE c i e ρ (fun v σ₁ => WSt c i y v ρ (fun ρ₂ σ₂ => Q .next ρ₂ σ₂) X σ₁) (X.ex ρ) σ) : WS c i (.Assign [.Name y py] e spos) ρ Q X σ := fun f fr z s a b g R => by
  have hsw : swapsWith e (some (.Name y py)) spos.line f.env = pure false := by
    subst he
    unfold swapsWith
    have e1 : f.env.blockKind = .function := by unfold Env.blockKind; rw [g.kind]; rfl
    have e2 : f.env.kindOf y = i.sc.names.lookup y := by show f.env.scope.names.lookup y = _; rw [a]
    dsimp only
    rw [e1, e2]
    show (pure (((ScopeKind.function == ScopeKind.function) && (i.sc.names.lookup y == some NameKind.local) && (py.line == pos.line)) && _) : Sem Bool) = pure false
    congr 1
  exact wpAny_Assign_Name (wuse (h f fr z s a b g R) (fun u s₁ v σ₁ is R₁ h₁ => wuse4 (h₁ u is f fr z s₁ a b g R₁) (fun _ s₂ ρ₂ σ₂ R₂ h₂ => ⟨.next, ρ₂, σ₂, rfl, R₂, h₂⟩) fun _ _ x => x) fun _ _ x => Ex.at x) hsw
end
end Mine
open PySem PySem.W PyProof.Rows
namespace Mine
theorem cellsFrom_gt : ∀ (names : List (Str × NameKind)) (n : Nat) (acc : List (Str × Nat)) (lo : Nat), lo < n → (∀ p ∈ acc, lo < p.2) → ∀ p ∈ cellsFrom n names acc, lo < p.2 := by
  intro names
  induction names with
  | nil => intro n acc lo _ h; exact h
  | cons q r ih =>
    obtain ⟨y, k⟩ := q
    intro n acc lo hlo h
    unfold cellsFrom
    by_cases hk : (k == .cell) = true
    · rw [if_pos hk]
      refine ih (n + 1) _ lo (by omega) fun p hp => ?_
      rcases List.mem_cons.mp hp with rfl | hp
      · exact hlo
      · exact h p hp
    · rw [if_neg hk]; exact ih n acc lo hlo h
def lawHp (l : Nat) (ns : List Int) (o : Obj) : Hp := fun a => if a = l then some (0, .klist (ns.map .int) o) else none
theorem ints_all2 {vs : List Value} {ns : List Int} (h : IntsAre vs ns) : All2 MV.Is (ns.map .int) vs := by
  induction h with
  | nil => exact .nil
  | cons t ts _ ih => exact .cons ⟨_, rfl⟩ ih
def lawFm (name : Str) (scope : Scope) (L fa : Nat) (cd : Value) (h : Heap) : Fm where
  A := callerA.deeper (envOfC name scope L fa cd)
  env := envOfC name scope L fa cd
  top := envOfC name scope L fa cd
  outer := []
  slotted := []
  base := h
theorem law_enter {c : Cx} (ok : CxOk c) {s₁ : Shared} {fa : Nat} {o : Obj} {name : Str} {params : Arguments} {body : List Stmt} {scope : Scope} {p : Str} {pm cd doc dV kV : Value} (ho : s₁.heap.get? fa = some o)
    (hd : o.data = .func { Calls.docDef name params body scope pm cd doc with defaults := dV, kwdefaults := kV }) (hcd : s₁.heap.CodeRec cd name) (KX : c.K.In s₁.heap) (T : Top c.p c.loose c.mean c.mg c.mb s₁.heap)
    (hbind : ∀ u : Value, bindArgs { Calls.docDef name params body scope pm cd doc with defaults := dV, kwdefaults := kV } ⟨[u], []⟩ = pure [(p, u)]) (hs : scopeOk scope [p] = true) {l : Nat} {vs : List Value} {ns : List Int} (hL : s₁.heap.IsList l vs.toArray) (hI : IntsAre vs ns)
    (h : ∀ ol, WSs c ⟨200, true, scope⟩ body (bindLo [p] [.ref l] fun _ => none) (fun m _ _ => m = .ret (.bool true)) noSX (lawHp l ns ol)) {P : Result → Shared → Prop}
    (hP : ∀ s', (∀ b o, s₁.heap.get? b = some o → s'.heap.get? b = some o) → s'.os = s₁.os → s'.gens = s₁.gens → P (.ok (.ret (.bool true))) s') : codeAny c.M callerA (.call (.ref fa) ⟨[.ref l], []⟩) P s₁ := by
  obtain ⟨hk, hco, hgen, hps, hcl, hnd⟩ := scopeOk_of hs
  obtain ⟨ol, hol, hlc, nl, hld⟩ := hL
  refine codeAny_call_function (by decide) ho hd hco hgen rfl hcd ?_
  rw [hbind (.ref l)]
  refine wpAny_pure ?_
  refine wpAny_newFunctionEnv_cells hk (fun x hx => ?_) fun env' he s' x => ?_
  · rw [List.mem_singleton] at hx
    subst hx
    exact (hps p (.head _)).imp id fun q => ⟨q, cellsFrom_some _ _ _ (.inl q)⟩
  · subst he
    refine ⟨T.nolimit.keeps x.toInCall.keep, codeAny_func ?_⟩
    have nm := cellsFrom_names scope.names 0 (s₁.heap.objs.size + 1) [] [] rfl
    have hk₁ := x.toInCall.keep
    have cellk : ∀ y k, (y, k) ∈ cellsFrom (s₁.heap.objs.size + 1) scope.names [] → scope.names.lookup y ≠ some .local := fun y k hx => by
      have : y ∈ (cellsFrom 0 scope.names []).map (·.1) := by rw [nm]; exact List.mem_map.mpr ⟨_, hx, rfl⟩
      obtain ⟨p, hp, rfl⟩ := List.mem_map.mp this
      exact hcl p hp
    have above : ∀ y k, (y, k) ∈ cellsFrom (s₁.heap.objs.size + 1) scope.names [] → s₁.heap.objs.size < k := fun y k hx => cellsFrom_gt scope.names _ [] _ (by omega) (fun _ h => nomatch h) (y, k) hx
    have noBase : s₁.heap.get? s₁.heap.objs.size = none := by
      cases e : s₁.heap.get? s₁.heap.objs.size with
      | none => rfl
      | some o => exact absurd (Heap.lt_size e) (Nat.lt_irrefl _)
    have G : Good c 200 (lawFm name scope s₁.heap.objs.size fa cd s₁.heap) s₁.heap.get? := {
      ok := ok
      base := fun a o e => e
      apart := fun a ha => nomatch ha
      K := KX
      top := T
      kind := hk
      globals := rfl
      celled := fun y hy => cellsFrom_some _ _ _ (.inl hy)
      cellk := cellk
      cellnd := ⟨cellsFrom_lt _ _ _ (fun _ h => nomatch h) (by simp), by show ((cellsFrom (s₁.heap.objs.size + 1) scope.names []).map (·.1)).Nodup; rw [← nm]; exact hnd, fun y k hy q => by
        have := above y k hy
        rw [show k = s₁.heap.objs.size from q] at this
        exact Nat.lt_irrefl _ this⟩
      builtins := rfl
      room := by show callerA.depth + 1 + 2 * 200 < recursionLimit; decide
      units := by show callerA.units + 3 + 40 * 200 < cLine; decide
      frames := rfl
      topk := ⟨hk, rfl, rfl, hgen, hco⟩
      low := modules_low T.nolimit
      slots := fun a ha => by
        obtain ⟨env, he, hf⟩ := List.mem_filterMap.mp ha
        rcases List.mem_cons.mp he with rfl | he
        · left; cases hf; rfl
        · cases he
      topL := ⟨s₁.heap.objs.size, rfl, .inl rfl, noBase⟩
      slotIn := fun a ha => nomatch ha
      home := rfl
      outer := fun env he => nomatch he }
    obtain ⟨h₁, tk, rfl⟩ := x.toInCall.same
    have lay : ∀ a t mo, lawHp l ns ol a = some (t, mo) → a = l ∧ mo = .klist (ns.map .int) ol := fun a t mo e => by
      unfold lawHp at e
      split at e
      · cases e; exact ⟨by assumption, rfl⟩
      · cases e
    have noFoot : ∀ a, ¬ Foot (lawHp l ns ol) a := fun a hf => by
      rcases hf with ⟨t, mo, e, q⟩ | ⟨t, C, fs, e⟩
      · rw [(lay _ _ _ e).2] at q; cases q
      · have := (lay _ _ _ e).2; cases this
    have R : c.Rel (lawFm name scope s₁.heap.objs.size fa cd s₁.heap) (bindLo [p] [.ref l] fun _ => none) (lawHp l ns ol) s₁.heap.get? s₁ { s₁ with heap := h₁, toks := tk } := {
      same := ⟨rfl, rfl, rfl⟩
      keep := fun a o e => ⟨o.slots, hk₁ a o e, fun _ => rfl⟩
      objs := fun a t mo e => by
        obtain ⟨rfl, rfl⟩ := lay a t mo e
        exact ⟨hk₁ _ _ hol, hlc, _, nl, hld, by simpa using ints_all2 hI⟩
      wf := fun a t C fs e => by have := (lay _ _ _ e).2; cases this
      apart := fun a hf => absurd hf (noFoot a)
      ns := ⟨_, x.toInCall.ns, fun y hy => bindLo_local (ps := [p]) (as := [.ref l]) (us := [.ref l]) hy (.cons (show MV.Is (.ref l) (.ref l) from rfl) .nil) trivial⟩
      cel := fun y k hy => by
        obtain ⟨o, ho, hd⟩ := x.cell y k (lookup_of_mem_nodup (nm ▸ hnd) hy)
        exact ⟨o, _, ho, hd, bindLo_cell (ps := [p]) (as := [.ref l]) (us := [.ref l]) (cellk y k hy) (.cons (show MV.Is (.ref l) (.ref l) from rfl) .nil) trivial⟩
      frame := ⟨noBase, fun y k hy => ⟨by
        cases e : s₁.heap.get? k with
        | none => rfl
        | some o => exact absurd (Nat.lt_trans (above y k hy) (Heap.lt_size e)) (Nat.lt_irrefl _), fun q => by
        have := above y k hy
        rw [show k = s₁.heap.objs.size from q] at this
        exact Nat.lt_irrefl _ this⟩⟩
      kl := fun a t xs o e => by
        obtain ⟨rfl, q⟩ := lay _ _ _ e
        cases q
        exact hol }
    refine wuse6 (h ol (lawFm name scope s₁.heap.objs.size fa cd s₁.heap) _ s₁ _ rfl (fun _ => rfl) G R) (fun fl s'' m ρ' σ' is R'' q => ?_) fun e s'' hx => noSX_elim hx
    subst q
    obtain ⟨u, rfl, is⟩ := is
    cases is
    refine hP s'' (fun b o e => ?_) R''.same.2.2 R''.same.1
    obtain ⟨sl, e1, e2⟩ := R''.keep b o e
    rw [e1, e2 fun hm => nomatch hm]
end Mine
open PySem PySem.W PyProof.Rows
namespace Mine
set_option genInjectivity false in
structure Tab where
  glob : List (Str × MV)
  meth : List ((Nat × Str) × Nat)
  fld : List (Nat × Str)
  init : List (Nat × Nat)
  fns : List Nat
theorem lookup_mem {α β : Type} [BEq α] [LawfulBEq α] {l : List (α × β)} {x : α} {a : β} (h : l.lookup x = some a) : (x, a) ∈ l := by
  induction l with
  | nil => cases h
  | cons p r ih =>
    obtain ⟨y, b⟩ := p
    rw [List.lookup_cons] at h
    cases hy : (x == y) with
    | true => rw [hy] at h; cases h; rw [beq_iff_eq.mp hy]; exact .head _
    | false => rw [hy] at h; exact .tail _ (ih h)
def Tab.cx (t : Tab) (prog : Program) (w : World) (K : Frag) (p : Program) (loose : List Str) (mean : ExcName → Option Value) (mg mb : Str → Option Value) : Cx where
  prog := prog
  w := w
  K := K
  p := p
  loose := loose
  mean := mean
  mg := mg
  mb := mb
  glob := fun x => t.glob.lookup x
  meth := fun C x => t.meth.lookup (C, x)
  fld := fun C x => t.fld.contains (C, x)
  init := fun C => t.init.lookup C
  fns := fun a => t.fns.contains a
def methOk (K : Frag) (C : Nat) (x : Str) (a : Nat) : Prop := plainGet K C x = true ∧ findIn K (.ref C) x = some (some (.ref a)) ∧ isFn K (.ref a) = true ∧ keepIn K (.ref a) = true
def fldOk (K : Frag) (C : Nat) (x : Str) : Prop := plainGet K C x = true ∧ hasDictIn K C = true ∧ findIn K (.ref C) x = some none ∧ findIn K (.ref C) "__setattr__" = some (some (.builtin "object.__setattr__")) ∧ plainOver K C = true ∧ takerIn K C x = some none
def initOk (K : Frag) (C a : Nat) : Prop := makesIn K C = true ∧ findIn K (.ref C) "__init__" = some (some (.ref a)) ∧ isFn K (.ref a) = true ∧ keepIn K (.ref C) = true
def globOk (K : Frag) (x : Str) (v : MV) : Prop := (x == ("__debug__" : Str)) = false ∧ ((∃ u, nsIn K mainGlobals x = some (some u) ∧ v.Is u) ∨ (nsIn K mainGlobals x = some none ∧ x ≠ "__name__" ∧ ∃ u, bootBuiltins x = some u ∧ v.Is u))
theorem Tab.ok {t : Tab} {prog : Program} {w : World} {K : Frag} {p : Program} {loose : List Str} {mean : ExcName → Option Value} {mg mb : Str → Option Value}
    (hg : ∀ q ∈ t.glob, globOk K q.1 q.2) (hm : ∀ q ∈ t.meth, methOk K q.1.1 q.1.2 q.2) (hf : ∀ q ∈ t.fld, fldOk K q.1 q.2) (hi : ∀ q ∈ t.init, initOk K q.1 q.2) (hn : ∀ a ∈ t.fns, keepIn K (.ref a) = true) : CxOk (t.cx prog w K p loose mean mg mb) where
  glob := fun x v h => hg (x, v) (mem_lookup h)
  meth := fun C x a h => hm ((C, x), a) (lookup_mem h)
  fld := fun C x h => hf (C, x) (List.contains_iff_mem.mp h)
  init := fun C a h => hi (C, a) (lookup_mem h)
  fns := fun a h => hn a (List.contains_iff_mem.mp h)
theorem all_nil {α : Type} {P : α → Prop} : ∀ q ∈ ([] : List α), P q := fun _ h => nomatch h
theorem all_cons {α : Type} {P : α → Prop} {a : α} {l : List α} (h : P a) (t : ∀ q ∈ l, P q) : ∀ q ∈ a :: l, P q := fun q hq => by
  rcases List.mem_cons.mp hq with rfl | hq
  · exact h
  · exact t q hq
theorem globRef {K : Frag} {x : Str} {a : Nat} (h0 : (x == ("__debug__" : Str)) = false) (h : nsIn K mainGlobals x = some (some (.ref a))) : globOk K x (.ref a) := ⟨h0, .inl ⟨_, h, rfl⟩⟩
theorem globInt {K : Frag} {x : Str} {n : Int} {t : Tok} (h0 : (x == ("__debug__" : Str)) = false) (h : nsIn K mainGlobals x = some (some (.int n t))) : globOk K x (.int n) := ⟨h0, .inl ⟨_, h, t, rfl⟩⟩
theorem globStr {K : Frag} {x : Str} {n : Str} {t : Tok} (h0 : (x == ("__debug__" : Str)) = false) (h : nsIn K mainGlobals x = some (some (.str n t))) : globOk K x (.str n) := ⟨h0, .inl ⟨_, h, t, rfl⟩⟩
theorem globBuiltin {K : Frag} {x : Str} {u : Value} (h0 : (x == ("__debug__" : Str)) = false) (h : nsIn K mainGlobals x = some none) (h1 : x ≠ "__name__") (h2 : bootBuiltins x = some u) : globOk K x (.con u) := ⟨h0, .inr ⟨h, h1, u, h2, rfl⟩⟩
theorem Lo.put_self {ρ : Lo} {x : Str} {v : MV} : (ρ.put x v) x = some v := by simp [Lo.put]
theorem Lo.put_ne {ρ : Lo} {x y : Str} {v : MV} {r : Option MV} (h : (y == x) = false) (e : ρ y = r) : (ρ.put x v) y = r := by
  rw [beq_eq_false_iff_ne] at h
  simp [Lo.put, h, e]
theorem Hp.self {σ : Hp} {a t : Nat} {o : MO} : (σ.put a t o) a = some (t, o) := Hp.put_self ..
theorem Hp.ne {σ : Hp} {a b t : Nat} {o : MO} {r : Option (Nat × MO)} (h : b ≠ a) (e : σ b = r) : (σ.put a t o) b = r := by rw [Hp.put_ne _ _ _ h]; exact e
theorem us0 {P : List Value → Prop} (h : P []) (us : List Value) (hl : us.length = 0) : P us := by
  rw [List.eq_nil_of_length_eq_zero hl]; exact h
theorem usS {k : Nat} {P : List Value → Prop} (h : ∀ u (us : List Value), us.length = k → P (u :: us)) (us : List Value) (hl : us.length = k + 1) : P us := by
  cases us with
  | nil => exact absurd hl (Nat.succ_ne_zero k).symm
  | cons u t => exact h u t (Nat.succ.inj hl)
theorem us1 {P : List Value → Prop} (h : ∀ u, P [u]) : ∀ us : List Value, us.length = 1 → P us := usS fun u => us0 (h u)
theorem us2 {P : List Value → Prop} (h : ∀ u v, P [u, v]) : ∀ us : List Value, us.length = 2 → P us := usS fun u => us1 (h u)
theorem us3 {P : List Value → Prop} (h : ∀ u v w, P [u, v, w]) : ∀ us : List Value, us.length = 3 → P us := usS fun u => us2 (h u)
theorem us4 {P : List Value → Prop} (h : ∀ u v w x, P [u, v, w, x]) : ∀ us : List Value, us.length = 4 → P us := usS fun u => us3 (h u)
theorem us5 {P : List Value → Prop} (h : ∀ u v w x y, P [u, v, w, x, y]) : ∀ us : List Value, us.length = 5 → P us := usS fun u => us4 (h u)
theorem us6 {P : List Value → Prop} (h : ∀ u v w x y z, P [u, v, w, x, y, z]) : ∀ us : List Value, us.length = 6 → P us := usS fun u => us5 (h u)
theorem us7 {P : List Value → Prop} (h : ∀ u v w x y z a, P [u, v, w, x, y, z, a]) : ∀ us : List Value, us.length = 7 → P us := usS fun u => us6 (h u)
end Mine
open PySem PySem.W PyProof.Rows
namespace Mine
abbrev ρ0 : Lo := fun _ => none
section
variable {c : Cx} {n : Nat} {hn : Bool} {sc : Scope} {a : Nat} {body : List Stmt} {scope : Scope} {ρ : Lo} {Q : MV → Hp → Prop} {X : EX} {σ : Hp} {p1 p2 p3 p4 p5 p6 p7 : Str} {a1 a2 a3 a4 a5 a6 a7 : MV}
theorem WFn.fn0 (F : FnAt c a [] body scope) (h : WSs c ⟨n, hn, scope⟩ body ρ0 (fun m _ σ' => Q m.val σ') noSX σ) : WFn c ⟨n + 1, hn, sc⟩ a [] ρ Q X σ := WFn.fn F rfl h
theorem WFn.fn1 (F : FnAt c a [p1] body scope) (h : WSs c ⟨n, hn, scope⟩ body (ρ0.put p1 a1) (fun m _ σ' => Q m.val σ') noSX σ) : WFn c ⟨n + 1, hn, sc⟩ a [a1] ρ Q X σ := WFn.fn F rfl h
theorem WFn.fn2 (F : FnAt c a [p1, p2] body scope) (h : WSs c ⟨n, hn, scope⟩ body ((ρ0.put p1 a1).put p2 a2) (fun m _ σ' => Q m.val σ') noSX σ) : WFn c ⟨n + 1, hn, sc⟩ a [a1, a2] ρ Q X σ := WFn.fn F rfl h
theorem WFn.fn3 (F : FnAt c a [p1, p2, p3] body scope) (h : WSs c ⟨n, hn, scope⟩ body (((ρ0.put p1 a1).put p2 a2).put p3 a3) (fun m _ σ' => Q m.val σ') noSX σ) : WFn c ⟨n + 1, hn, sc⟩ a [a1, a2, a3] ρ Q X σ := WFn.fn F rfl h
theorem WFn.fn4 (F : FnAt c a [p1, p2, p3, p4] body scope) (h : WSs c ⟨n, hn, scope⟩ body ((((ρ0.put p1 a1).put p2 a2).put p3 a3).put p4 a4) (fun m _ σ' => Q m.val σ') noSX σ) : WFn c ⟨n + 1, hn, sc⟩ a [a1, a2, a3, a4] ρ Q X σ := WFn.fn F rfl h
theorem WFn.fn5 (F : FnAt c a [p1, p2, p3, p4, p5] body scope) (h : WSs c ⟨n, hn, scope⟩ body (((((ρ0.put p1 a1).put p2 a2).put p3 a3).put p4 a4).put p5 a5) (fun m _ σ' => Q m.val σ') noSX σ) : WFn c ⟨n + 1, hn, sc⟩ a [a1, a2, a3, a4, a5] ρ Q X σ := WFn.fn F rfl h
theorem WFn.fn6 (F : FnAt c a [p1, p2, p3, p4, p5, p6] body scope) (h : WSs c ⟨n, hn, scope⟩ body ((((((ρ0.put p1 a1).put p2 a2).put p3 a3).put p4 a4).put p5 a5).put p6 a6) (fun m _ σ' => Q m.val σ') noSX σ) : WFn c ⟨n + 1, hn, sc⟩ a [a1, a2, a3, a4, a5, a6] ρ Q X σ := WFn.fn F rfl h
theorem WFn.fn7 (F : FnAt c a [p1, p2, p3, p4, p5, p6, p7] body scope) (h : WSs c ⟨n, hn, scope⟩ body (((((((ρ0.put p1 a1).put p2 a2).put p3 a3).put p4 a4).put p5 a5).put p6 a6).put p7 a7) (fun m _ σ' => Q m.val σ') noSX σ) : WFn c ⟨n + 1, hn, sc⟩ a [a1, a2, a3, a4, a5, a6, a7] ρ Q X σ := WFn.fn F rfl h
end
theorem lk_head {α : Type} {x : Str} {v : α} {r : List (Str × α)} : ((x, v) :: r).lookup x = some v := by simp [List.lookup_cons]
theorem lk_tail {α : Type} {x y : Str} {v : α} {r : List (Str × α)} {o : Option α} (h : (x == y) = false) (e : r.lookup x = o) : ((y, v) :: r).lookup x = o := by rw [List.lookup_cons, h]; exact e
section
variable {c : Cx} {i : Ix} {ρ : Lo} {σ : Hp} {X : EX}
theorem WSet.inst' {a t C : Nat} {name : Str} {fs fs' : List (Str × MV)} {v : MV} {Q : Unit → Hp → Prop} (e : σ a = some (t, .inst C fs)) (hf : c.fld C name = true) (hp : putF name v fs = fs') (hl : fs.length < 900) (h : Q () (σ.put a t (.inst C fs'))) : WSet c i (.ref a) name v ρ Q X σ := WSet.inst e hf hl (by rw [hp]; exact h)
end
section
variable {c : Cx} {n : Nat} {hn : Bool} {sc : Scope} {ρ : Lo} {σ : Hp}
theorem WE.localA {X : EX} {Q : MV → Hp → Prop} {x pos v} (hl : sc.names.lookup x = some .local) (hd : (x == ("__debug__" : Str)) = false) (hv : ρ x = some v) (h : Q v σ) : WE c ⟨n, hn, sc⟩ (.Name x pos) ρ Q X σ := WE.local hl hd hv h
theorem WE.cellA {X : EX} {Q : MV → Hp → Prop} {x pos v} (hl : sc.names.lookup x = some .cell) (hd : (x == ("__debug__" : Str)) = false) (hv : ρ x = some v) (h : Q v σ) : WE c ⟨n, hn, sc⟩ (.Name x pos) ρ Q X σ := WE.cell hl hd hv h
theorem WE.globalA {X : EX} {Q : MV → Hp → Prop} {x pos v} (hl : sc.names.lookup x = some .globalImplicit) (hv : c.glob x = some v) (h : Q v σ) : WE c ⟨n, hn, sc⟩ (.Name x pos) ρ Q X σ := WE.global hl hv h
theorem WSt.localA {X : SX} {x v} {Q : Lo → Hp → Prop} (hl : sc.names.lookup x = some .local) (h : Q (ρ.put x v) σ) : WSt c ⟨n, hn, sc⟩ x v ρ Q X σ := WSt.local hl h
theorem WSt.cellA {X : SX} {x v} {Q : Lo → Hp → Prop} (hl : sc.names.lookup x = some .cell) (h : Q (ρ.put x v) σ) : WSt c ⟨n, hn, sc⟩ x v ρ Q X σ := WSt.cell hl h
end
theorem if_tt {A B : Prop} (h : A) : if true = true then A else B := h
theorem if_ff {A B : Prop} (h : B) : if false = true then A else B := h
theorem if_nt {A B : Prop} (h : B) : if (!true) = true then A else B := h
theorem if_nf {A B : Prop} (h : A) : if (!false) = true then A else B := h
theorem if_dec {p : Prop} [Decidable p] {A B : Prop} (h1 : p → A) (h2 : ¬ p → B) : if decide p = true then A else B := by
  by_cases h : p
  · rw [decide_eq_true h]; exact h1 h
  · rw [decide_eq_false h]; exact h2 h
theorem if_bool {b : Bool} {A B : Prop} (h1 : b = true → A) (h2 : b = false → B) : if b = true then A else B := by
  cases b
  · exact h2 rfl
  · exact h1 rfl
theorem Callee.con {c : Cx} {v : Value} (h : (match v with | .ref _ => false | _ => true) = true) : Callee c (.con v) := fun a e => by subst e; cases h
theorem Callee.fn {c : Cx} {a : Nat} (h : c.fns a = true) : Callee c (.ref a) := .inl h
theorem Callee.meth {c : Cx} {a C : Nat} {x : Str} (h : c.meth C x = some a) : Callee c (.ref a) := .inr (.inl ⟨C, x, h⟩)
theorem Callee.cls {c : Cx} {a b : Nat} (h : c.init a = some b) : Callee c (.ref a) := .inr (.inr ⟨b, h⟩)
section
variable {c : Cx} {i : Ix} {ρ : Lo} {σ : Hp} {X : SX} {Q : MF → Lo → Hp → Prop}
theorem WS.cont {pos} (h : Q .cont ρ σ) : WS c i (.Continue pos) ρ Q X σ := fun f fr z s a b g R => wpAny_Continue ⟨.cont, ρ, σ, rfl, R, h⟩
end
end Mine
open PySem PySem.W PyProof.Rows
namespace Mine
theorem Hp.new {σ : Hp} {a b t : Nat} {o : MO} {p : Nat × MO} (h : σ b = Option.none) (e : σ a = some p) : (σ.put b t o) a = some p :=
  Hp.ne (fun q => by rw [q, h] at e; exact nomatch e) e
theorem Hp.tag {σ : Hp} {a b t t' : Nat} {o o' q : MO} (h : σ b = some (t, q)) (ht : t' ≠ t) (e : σ a = some (t', o')) : (σ.put b t o) a = some (t', o') :=
  Hp.ne (fun q => by rw [q, h] at e; exact ht (congrArg Prod.fst (Option.some.inj e)).symm) e
structure Oth (t : Nat) (σ σ' : Hp) : Prop where
  all : ∀ a t' o, σ a = some (t', o) → t' ≠ t → σ' a = some (t', o)
theorem Oth.at {t : Nat} {σ σ' : Hp} (h : Oth t σ σ') {a t' : Nat} {o : MO} (e : σ a = some (t', o)) (n : t' ≠ t) : σ' a = some (t', o) := h.all a t' o e n
theorem Oth.refl {t : Nat} {σ : Hp} : Oth t σ σ := ⟨fun _ _ _ h _ => h⟩
theorem Oth.trans {t : Nat} {σ σ' σ'' : Hp} (h : Oth t σ σ') (k : Oth t σ' σ'') : Oth t σ σ'' := ⟨fun _ _ _ e n => k.at (h.at e n) n⟩
theorem Oth.new {t b : Nat} {o : MO} {σ σ' : Hp} (h : Oth t σ σ') (hb : σ' b = Option.none) {t' : Nat} : Oth t σ (σ'.put b t' o) := ⟨fun _ _ _ e n => Hp.new hb (h.at e n)⟩
theorem Oth.put {t b : Nat} {o q : MO} {σ σ' : Hp} (h : Oth t σ σ') (hb : σ' b = some (t, q)) : Oth t σ (σ'.put b t o) := ⟨fun _ _ _ e n => Hp.tag hb n (h.at e n)⟩
structure Kpt (t : Nat) (σ σ' : Hp) : Prop where
  all : ∀ a o, σ a = some (t, o) → σ' a = some (t, o)
theorem Kpt.at {t : Nat} {σ σ' : Hp} (h : Kpt t σ σ') {a : Nat} {o : MO} (e : σ a = some (t, o)) : σ' a = some (t, o) := h.all a o e
theorem Kpt.new {t b : Nat} {o : MO} {σ : Hp} (hb : σ b = Option.none) {t' : Nat} : Kpt t σ (σ.put b t' o) := ⟨fun _ _ e => Hp.new hb e⟩
theorem Kpt.put {t t' b : Nat} {o q : MO} {σ : Hp} (hb : σ b = some (t', q)) (n : t ≠ t') : Kpt t σ (σ.put b t' o) := ⟨fun _ _ e => Hp.tag hb n e⟩
theorem Oth.kpt {t t' : Nat} {σ σ' : Hp} (h : Oth t σ σ') (n : t' ≠ t) : Kpt t' σ σ' := ⟨fun _ _ e => h.at e n⟩
theorem Fresh.put {σ : Hp} {b t : Nat} {o : MO} (h : Fresh σ b) : Fresh (σ.put b t o) (b + 1) := fun a p e => by
  unfold Hp.put at e
  split at e
  · omega
  · exact Nat.lt_succ_of_lt (h a p e)
theorem Hp.put_put {σ : Hp} {a t t' : Nat} {o o' : MO} : (σ.put a t o).put a t' o' = σ.put a t' o' := by
  funext b
  unfold Hp.put
  split <;> rfl
theorem ListAt.k {σ : Hp} {a t : Nat} {xs : List MV} {o : Obj} (h : σ a = some (t, .klist xs o)) : ListAt σ a xs := ⟨t, .inr ⟨o, h⟩⟩
section
variable {c : Cx} {i : Ix}
theorem WFor.byIdx' {x : Str} {body : List Stmt} {still : Hp → Prop} {Q : MF → Lo → Hp → Prop} {items : List MV} (Inv : Nat → Lo → Hp → Prop)
    (hs : ∀ k v ρ σ, items[k]? = some v → Inv k ρ σ → still σ ∧ WSt c i x v ρ (fun ρ₁ σ₁ => WSs c i body ρ₁ (fun m ρ₂ σ₂ => match m with
      | .next | .cont => Inv (k + 1) ρ₂ σ₂
      | .brk => Q .next ρ₂ σ₂
      | .ret u => Q (.ret u) ρ₂ σ₂) noSX σ₁) noSX σ)
    (he : ∀ ρ σ, Inv items.length ρ σ → still σ ∧ Q .next ρ σ) : ∀ (n k : Nat) (ρ : Lo) (σ : Hp), n + k = items.length → Inv k ρ σ → WFor c i x body still Q (items.drop k) ρ σ
  | 0, k, ρ, σ, hk, h => by
    rw [List.drop_eq_nil_of_le (by omega)]
    exact he ρ σ (by rw [← hk, Nat.zero_add]; exact h)
  | n + 1, k, ρ, σ, hk, h => by
    have hlt : k < items.length := by omega
    rw [List.drop_eq_getElem_cons hlt]
    obtain ⟨h1, h2⟩ := hs k _ ρ σ (List.getElem?_eq_getElem hlt) h
    refine ⟨h1, ?_⟩
    intro u hu f fr z s a b g R
    refine wpAny_mono (h2 u hu f fr z s a b g R) (fun _ s' hq => ?_) (fun _ _ hx => hx)
    obtain ⟨ρ', σ', R', hw⟩ := hq
    refine ⟨ρ', σ', R', ?_⟩
    refine S.mono hw fun m ρ₂ σ₂ hm => ?_
    cases m with
    | next => exact WFor.byIdx' Inv hs he n (k + 1) ρ₂ σ₂ (by omega) hm
    | cont => exact WFor.byIdx' Inv hs he n (k + 1) ρ₂ σ₂ (by omega) hm
    | brk => exact hm
    | ret u => exact hm
theorem WFor.byIdx {x : Str} {body : List Stmt} {still : Hp → Prop} {Q : MF → Lo → Hp → Prop} {items : List MV} {ρ : Lo} {σ : Hp} (Inv : Nat → Lo → Hp → Prop) (h0 : Inv 0 ρ σ)
    (hs : ∀ k v ρ σ, items[k]? = some v → Inv k ρ σ → still σ ∧ WSt c i x v ρ (fun ρ₁ σ₁ => WSs c i body ρ₁ (fun m ρ₂ σ₂ => match m with
      | .next | .cont => Inv (k + 1) ρ₂ σ₂
      | .brk => Q .next ρ₂ σ₂
      | .ret u => Q (.ret u) ρ₂ σ₂) noSX σ₁) noSX σ)
    (he : ∀ ρ σ, Inv items.length ρ σ → still σ ∧ Q .next ρ σ) : WFor c i x body still Q items ρ σ := by
  have := WFor.byIdx' Inv hs he items.length 0 ρ σ (by omega) h0
  simpa using this
theorem upTo_length {lo hi : Int} : (upTo lo hi).length = (hi - lo).toNat := by simp [upTo]
theorem upTo_at {lo hi : Int} {k : Nat} {v : MV} (h : (upTo lo hi)[k]? = some v) : v = .int (lo + (k : Int)) ∧ lo + (k : Int) < hi := by
  unfold upTo at h
  rw [List.getElem?_map] at h
  cases q : (List.range (hi - lo).toNat)[k]? with
  | none => rw [q] at h; simp at h
  | some j =>
    rw [q] at h
    have hlt : k < (List.range (hi - lo).toNat).length := (List.getElem?_eq_some_iff.mp q).1
    rw [List.length_range] at hlt
    rw [List.getElem?_range hlt] at q
    cases q
    cases h
    exact ⟨rfl, by omega⟩
theorem lt63 {k m : Int} (h : k < m) (h6 : m ≤ 1000) : k < 2 ^ 63 := by omega
theorem ltNat {k m : Int} {l : Nat} (h0 : 0 ≤ k) (h : k < m) (hl : (l : Int) = m) : k.toNat < l := by omega
theorem leNat {m : Int} {l : Nat} (b : Nat) (hl : (l : Int) = m) (h : m ≤ b) : l ≤ b := by omega
theorem ne0 {m : Int} (h : 1 ≤ m) : m ≠ 0 := by omega
theorem le0 {m : Int} (h : 1 ≤ m) : 0 ≤ m := Int.le_trans (by decide) h
theorem lt0 {m : Int} (h : 1 ≤ m) : 0 < m := Int.lt_of_lt_of_le (by decide) h
theorem mapLt {α : Type} {l : List α} {f : α → MV} {k m : Int} (h : k < m) (hl : (l.length : Int) = m) : k < ((l.map f).length : Int) := by rw [List.length_map, hl]; exact h
theorem mapLe {α : Type} {l : List α} {f : α → MV} {b : Nat} (h : l.length ≤ b) : (l.map f).length ≤ b := by rw [List.length_map]; exact h
theorem fmod_ge (a : Int) {m : Int} (h : 1 ≤ m) : 0 ≤ a.fmod m := Int.fmod_nonneg_of_pos _ (lt0 h)
theorem fmod_lt (a : Int) {m : Int} (h : 1 ≤ m) : a.fmod m < m := Int.fmod_lt_of_pos _ (lt0 h)
theorem itR {σ : Hp} {a t : Nat} {n : Int} (e : σ a = some (t, .range 0 n)) (h0 : 0 ≤ n) (h1 : n ≤ 1000000) : Iterable σ (.ref a) (upTo 0 n) (fun _ => True) := .range e (by decide) (by decide) (by omega) (by omega)
theorem upTo_le {n : Int} (h1 : n ≤ 1000000) : (upTo 0 n).length ≤ 1000000 := by rw [upTo_length]; omega
theorem WFor.upTo {x : Str} {body : List Stmt} {Q : MF → Lo → Hp → Prop} {n : Int} {ρ : Lo} {σ : Hp} (Inv : Nat → Lo → Hp → Prop) (h0 : Inv 0 ρ σ)
    (hs : ∀ (k : Nat) ρ σ, (k : Int) < n → Inv k ρ σ → WSt c i x (.int (k : Int)) ρ (fun ρ₁ σ₁ => WSs c i body ρ₁ (fun m ρ₂ σ₂ => match m with
      | .next | .cont => Inv (k + 1) ρ₂ σ₂
      | .brk => Q .next ρ₂ σ₂
      | .ret u => Q (.ret u) ρ₂ σ₂) noSX σ₁) noSX σ)
    (he : ∀ ρ σ, Inv n.toNat ρ σ → Q .next ρ σ) : WFor c i x body (fun _ => True) Q (upTo 0 n) ρ σ := by
  refine WFor.byIdx Inv h0 (fun k v ρ σ hv hI => ⟨trivial, ?_⟩) fun ρ σ h => ⟨trivial, he ρ σ ?_⟩
  · obtain ⟨rfl, hlt⟩ := upTo_at hv
    rw [Int.zero_add] at hlt ⊢
    exact hs k ρ σ hlt hI
  · rw [upTo_length, Int.sub_zero] at h; exact h
def tabl (n : Int) (g : Nat → MV) : List MV := (List.range n.toNat).map g
theorem WComp.pure' {x : Str} {elt : Expr} {still : Hp → Prop} {Q : List MV → Hp → Prop} {ρ : Lo} {σ : Hp} (hst : still σ) {f : MV → MV} : ∀ {items acc : List MV} (h : ∀ v ∈ items, ∀ K : MV → Hp → Prop, K (f v) σ → WE c i elt (ρ.put x v) K noX σ)
    (hq : Q (acc ++ items.map f) σ), WComp c i x elt [] still Q ρ items acc σ
  | [], acc, h, hq => ⟨hst, by simpa using hq⟩
  | v :: vs, acc, h, hq => by
    refine ⟨hst, ?_⟩
    refine (if_tt (A := WE c i elt (ρ.put x v) (fun u σ₂ => WComp c i x elt [] still Q ρ vs (acc ++ [u]) σ₂) noX σ) ?_ : ite _ _ (WComp c i x elt [] still Q ρ vs acc σ))
    refine h v (List.mem_cons_self ..) _ ?_
    exact WComp.pure' hst (fun u hu => h u (List.mem_cons_of_mem _ hu)) (by simpa using hq)
theorem WComp.upTo {x : Str} {elt : Expr} {Q : List MV → Hp → Prop} {ρ : Lo} {σ : Hp} {n : Int} (g : Nat → MV) (h : ∀ k : Nat, (k : Int) < n → ∀ K : MV → Hp → Prop, K (g k) σ → WE c i elt (ρ.put x (.int (k : Int))) K noX σ)
    (hq : Q (tabl n g) σ) : WComp c i x elt [] (fun _ => True) Q ρ (upTo 0 n) [] σ := by
  refine WComp.pure' (f := fun v => match v with | .int k => g k.toNat | _ => .none) trivial (fun v hv K hK => ?_) ?_
  · obtain ⟨k, hk⟩ := List.mem_iff_getElem?.mp hv
    obtain ⟨rfl, hlt⟩ := upTo_at hk
    rw [Int.zero_add] at hlt hK ⊢
    exact h k hlt K (by simpa using hK)
  · simpa [Mine.upTo, tabl, Function.comp_def] using hq
end
section
variable {c : Cx} {i : Ix} {ρ : Lo} {σ : Hp} {X : EX} {Q : MV → Hp → Prop}
theorem WC.isNN  (h : Q (.bool true) σ) : WC c i .Is .none .none ρ Q X σ := WC.isNone rfl h
theorem WC.isNotNN  (h : Q (.bool false) σ) : WC c i .IsNot .none .none ρ Q X σ := WC.isNotNone rfl h
theorem WC.isNS {x} (h : Q (.bool false) σ) : WC c i .Is (.str x) .none ρ Q X σ := WC.isNone rfl h
theorem WC.isNotNS {x} (h : Q (.bool true) σ) : WC c i .IsNot (.str x) .none ρ Q X σ := WC.isNotNone rfl h
theorem WC.isNI {x} (h : Q (.bool false) σ) : WC c i .Is (.int x) .none ρ Q X σ := WC.isNone rfl h
theorem WC.isNotNI {x} (h : Q (.bool true) σ) : WC c i .IsNot (.int x) .none ρ Q X σ := WC.isNotNone rfl h
theorem WC.isNB {x} (h : Q (.bool false) σ) : WC c i .Is (.bool x) .none ρ Q X σ := WC.isNone rfl h
theorem WC.isNotNB {x} (h : Q (.bool true) σ) : WC c i .IsNot (.bool x) .none ρ Q X σ := WC.isNotNone rfl h
theorem WC.isNR {x} (h : Q (.bool false) σ) : WC c i .Is (.ref x) .none ρ Q X σ := WC.isNone rfl h
theorem WC.isNotNR {x} (h : Q (.bool true) σ) : WC c i .IsNot (.ref x) .none ρ Q X σ := WC.isNotNone rfl h
theorem WC.inS_t {a t es k v} (hd : σ a = some (t, .sdict es)) (hg : getK es k = some v) (h : Q (.bool true) σ) : WC c i .In (.str k) (.ref a) ρ Q X σ := WC.inS hd (by rw [hg]; exact h)
theorem WC.inS_f {a t es k} (hd : σ a = some (t, .sdict es)) (hg : getK es k = Option.none) (h : Q (.bool false) σ) : WC c i .In (.str k) (.ref a) ρ Q X σ := WC.inS hd (by rw [hg]; exact h)
theorem WC.notInS_t {a t es k v} (hd : σ a = some (t, .sdict es)) (hg : getK es k = some v) (h : Q (.bool false) σ) : WC c i .NotIn (.str k) (.ref a) ρ Q X σ := WC.notInS hd (by rw [hg]; exact h)
theorem WC.notInS_f {a t es k} (hd : σ a = some (t, .sdict es)) (hg : getK es k = Option.none) (h : Q (.bool true) σ) : WC c i .NotIn (.str k) (.ref a) ρ Q X σ := WC.notInS hd (by rw [hg]; exact h)
end
section
variable {c : Cx} {i : Ix} {ρ : Lo} {σ : Hp}
theorem gN {x pos} {Q : MV → Hp → Prop} {X : EX} (h : WE c i (.Name x pos) ρ Q X σ) : WE c i (.Name x pos) ρ Q X σ := h
theorem gE {e} {Q : MV → Hp → Prop} {X : EX} (h : WE c i e ρ Q X σ) : WE c i e ρ Q X σ := h
theorem gEs {p es} {Q : List MV → Hp → Prop} {X : EX} (h : WEs c i p es ρ Q X σ) : WEs c i p es ρ Q X σ := h
theorem gT {e} {Q : Bool → Hp → Prop} {X : EX} (h : WT c i e ρ Q X σ) : WT c i e ρ Q X σ := h
theorem gS {e} {Q : MF → Lo → Hp → Prop} {X : SX} (h : WS c i e ρ Q X σ) : WS c i e ρ Q X σ := h
theorem gSs {e} {Q : MF → Lo → Hp → Prop} {X : SX} (h : WSs c i e ρ Q X σ) : WSs c i e ρ Q X σ := h
theorem gTr {m} {Q : Bool → Hp → Prop} {X : EX} (h : WTr c i m ρ Q X σ) : WTr c i m ρ Q X σ := h
theorem gA {op es p t} {Q : Bool → Hp → Prop} {X : EX} (h : WA c i op es p t ρ Q X σ) : WA c i op es p t ρ Q X σ := h
theorem gB {op a b} {Q : MV → Hp → Prop} {X : EX} (h : WB c i op a b ρ Q X σ) : WB c i op a b ρ Q X σ := h
theorem gI {op a b} {Q : MV → Hp → Prop} {X : EX} (h : WI c i op a b ρ Q X σ) : WI c i op a b ρ Q X σ := h
theorem gC {op a b} {Q : MV → Hp → Prop} {X : EX} (h : WC c i op a b ρ Q X σ) : WC c i op a b ρ Q X σ := h
theorem gU {op a} {Q : MV → Hp → Prop} {X : EX} (h : WU c i op a ρ Q X σ) : WU c i op a ρ Q X σ := h
theorem gGet {a n} {Q : MV → Hp → Prop} {X : EX} (h : WGet c i a n ρ Q X σ) : WGet c i a n ρ Q X σ := h
theorem gM {a n} {Q : MV × List MV → Hp → Prop} {X : EX} (h : WM c i a n ρ Q X σ) : WM c i a n ρ Q X σ := h
theorem gSub {v s a b} {Q : MV → Hp → Prop} {X : EX} (h : WSub c i v s a b ρ Q X σ) : WSub c i v s a b ρ Q X σ := h
theorem gPut {a k b} {Q : Unit → Hp → Prop} {X : EX} (h : WPut c i a k b ρ Q X σ) : WPut c i a k b ρ Q X σ := h
theorem gSet {a k b} {Q : Unit → Hp → Prop} {X : EX} (h : WSet c i a k b ρ Q X σ) : WSet c i a k b ρ Q X σ := h
theorem gCall {a k} {Q : MV → Hp → Prop} {X : EX} (h : WCall c i a k ρ Q X σ) : WCall c i a k ρ Q X σ := h
theorem gSt {x v} {Q : Lo → Hp → Prop} {X : SX} (h : WSt c i x v ρ Q X σ) : WSt c i x v ρ Q X σ := h
theorem if_pt {b : Bool} {A B : Prop} (hb : b = true) (h : A) : if b = true then A else B := by rw [if_pos hb]; exact h
theorem if_pf {b : Bool} {A B : Prop} (hb : b = false) (h : B) : if b = true then A else B := by rw [hb]; exact h
theorem if_qt {b : Bool} {A B : Prop} (hb : b = true) (h : B) : if (!b) = true then A else B := by rw [hb]; exact h
theorem if_qf {b : Bool} {A B : Prop} (hb : b = false) (h : A) : if (!b) = true then A else B := by rw [hb]; exact h
theorem if_dt {p : Prop} [Decidable p] {A B : Prop} (hp : p) (h : A) : if decide p = true then A else B := by rw [if_pos (decide_eq_true hp)]; exact h
theorem if_df {p : Prop} [Decidable p] {A B : Prop} (hp : ¬ p) (h : B) : if decide p = true then A else B := by rw [decide_eq_false hp]; exact h
theorem if_et {m n : Int} {A B : Prop} (hp : m = n) (h : A) : if (m == n) = true then A else B := by rw [if_pos (by simpa using hp)]; exact h
theorem if_ef {m n : Int} {A B : Prop} (hp : m ≠ n) (h : B) : if (m == n) = true then A else B := by rw [if_neg (by simpa using hp)]; exact h
theorem if_nt' {m n : Int} {A B : Prop} (hp : m ≠ n) (h : A) : if (m != n) = true then A else B := by rw [if_pos (by simpa using hp)]; exact h
theorem if_nf' {m n : Int} {A B : Prop} (hp : m = n) (h : B) : if (m != n) = true then A else B := by rw [if_neg (by simpa using hp)]; exact h
theorem Hp.tag' {σ : Hp} {a b t t' : Nat} {o o' q : MO} (e : σ a = some (t', o')) (h : σ b = some (t, q)) (ht : t' ≠ t) : (σ.put b t o) a = some (t', o') := Hp.tag h ht e
theorem WE.sub' {v sl pos} {Q : MV → Hp → Prop} {X : EX} (hs : NoSlice sl) (h : WE c i v ρ (fun a σ₁ => WE c i sl ρ (fun b σ₂ => WSub c i v sl a b ρ Q X σ₂) X σ₁) X σ) : WE c i (.Subscript v sl pos) ρ Q X σ := WE.sub h
theorem gAttr {e n p} {Q : MV → Hp → Prop} {X : EX} (h : WE c i (.Attribute e n p) ρ Q X σ) : WE c i (.Attribute e n p) ρ Q X σ := h
theorem gMeth {o n p es ks q} {Q : MV → Hp → Prop} {X : EX} (h : WE c i (.Call (.Attribute o n p) es ks q) ρ Q X σ) : WE c i (.Call (.Attribute o n p) es ks q) ρ Q X σ := h
theorem gSubE {v sl pos} {Q : MV → Hp → Prop} {X : EX} (h : WE c i (.Subscript v sl pos) ρ Q X σ) : WE c i (.Subscript v sl pos) ρ Q X σ := h
def notFor : Stmt → Bool
  | .For .. => false
  | _ => true
theorem WSs.consA {st rest} {Q : MF → Lo → Hp → Prop} {X : SX} (hf : notFor st = true) (h : WS c i st ρ (fun m ρ₁ σ₁ => match m with | .next => WSs c i rest ρ₁ Q X σ₁ | m => Q m ρ₁ σ₁) X σ) : WSs c i (st :: rest) ρ Q X σ := WSs.cons h
theorem gIsi {m cv} {Q : MV → Hp → Prop} {X : EX} (h : WCall c i (.con (.builtin "isinstance")) [m, .con cv] ρ Q X σ) : WCall c i (.con (.builtin "isinstance")) [m, .con cv] ρ Q X σ := h
theorem gGetR {a : Nat} {n} {Q : MV → Hp → Prop} {X : EX} (h : WGet c i (.ref a) n ρ Q X σ) : WGet c i (.ref a) n ρ Q X σ := h
theorem gMR {a : Nat} {n} {Q : MV × List MV → Hp → Prop} {X : EX} (h : WM c i (.ref a) n ρ Q X σ) : WM c i (.ref a) n ρ Q X σ := h
theorem gSubI {v s} {a : Nat} {k : Int} {Q : MV → Hp → Prop} {X : EX} (h : WSub c i v s (.ref a) (.int k) ρ Q X σ) : WSub c i v s (.ref a) (.int k) ρ Q X σ := h
theorem gSubS {v s} {a : Nat} {k : Str} {Q : MV → Hp → Prop} {X : EX} (h : WSub c i v s (.ref a) (.str k) ρ Q X σ) : WSub c i v s (.ref a) (.str k) ρ Q X σ := h
theorem gInS {a : Nat} {k : Str} {Q : MV → Hp → Prop} {X : EX} (h : WC c i .In (.str k) (.ref a) ρ Q X σ) : WC c i .In (.str k) (.ref a) ρ Q X σ := h
theorem gNotInS {a : Nat} {k : Str} {Q : MV → Hp → Prop} {X : EX} (h : WC c i .NotIn (.str k) (.ref a) ρ Q X σ) : WC c i .NotIn (.str k) (.ref a) ρ Q X σ := h
theorem gMul {a b : Int} {Q : MV → Hp → Prop} {X : EX} (h : WB c i .Mult (.int a) (.int b) ρ Q X σ) : WB c i .Mult (.int a) (.int b) ρ Q X σ := h
theorem gIfD {p : Prop} [Decidable p] {A B : Prop} (h : if decide p = true then A else B) : if decide p = true then A else B := h
theorem gIfE {m n : Int} {A B : Prop} (h : if (m == n) = true then A else B) : if (m == n) = true then A else B := h
theorem gIfN {m n : Int} {A B : Prop} (h : if (m != n) = true then A else B) : if (m != n) = true then A else B := h
theorem gIfQ {b : Bool} {A B : Prop} (h : if (!b) = true then A else B) : if (!b) = true then A else B := h
theorem gIf {b : Bool} {A B : Prop} (h : if b = true then A else B) : if b = true then A else B := h
end
end Mine
open PySem PySem.W PyProof.Rows
namespace Mine
section
variable {c : Cx} {i : Ix} {ρ : Lo} {σ : Hp} {X : EX} {Q : MV → Hp → Prop}
theorem WCall.strI {n : Int} (h0 : n.natAbs.log2 < 1920) (h : Q (.str (Str.ofString (toString n))) σ) : WCall c i (.con (.type "str")) [.int n] ρ Q X σ := fun v us iv iu f fr z s _ _ g R => by
  cases iv
  obtain ⟨u, rfl, t, rfl⟩ := iu.one
  exact PySem.P.str_of_int h0 ⟨.str _, σ, ⟨_, rfl⟩, R.toks _, h⟩
theorem strsOf : ∀ {ys : List Str} {vs : List Value}, All2 MV.Is (ys.map .str) vs → StrsAre vs ys
  | [], _, .nil => .nil
  | y :: ys, _, .cons ⟨t, e⟩ h => by subst e; exact .cons y t (strsOf h)
theorem WC.notInL {a : Nat} {ys : List Str} {k : Str} (hl : ListAt σ a (ys.map .str)) (h : Q (.bool (!(ys.any (· == k)))) σ) : WC c i .NotIn (.str k) (.ref a) ρ Q X σ := fun v u iv iu f fr z s _ _ g R => by
  obtain ⟨t, rfl⟩ := iv
  cases iu
  obtain ⟨its, hi, r⟩ := R.isList hl
  exact notin_list_strs (vs := its.toList) (by simpa using hi) (strsOf r) ⟨.bool _, σ, rfl, R, h⟩
theorem WM.dictPop {a t es} {Q : MV × List MV → Hp → Prop} (hl : σ a = some (t, .sdict es)) (h : Q (.con (.builtin "dict.pop"), [.ref a]) σ) : WM c i (.ref a) "pop" ρ Q X σ := fun v pl iv f fr z s _ _ g R => by
  cases iv
  obtain ⟨l, kvs, hk, r⟩ := Rel.sdict R hl
  exact getMethod_builtin (T := "dict") hk.typeIs PySem.F.plainAttrs_dict PySem.F.slot_dict_pop PySem.F.type_dict_pop (fun b e => by cases e; obtain ⟨o, es', ep, ho, hx, _⟩ := hk; exact ⟨o, ho, hx.2.1⟩) ⟨(.con (.builtin "dict.pop"), [.ref a]), σ, ⟨rfl, .cons rfl .nil⟩, R, h⟩
theorem WCall.dictPop {a t : Nat} {es : List (Str × MV)} {k : Str} {v : MV} (hd : σ a = some (t, .sdict es)) (hz : es.length ≤ 1000000) (hv : getK es k = some v) (h : Q v (σ.put a t (.sdict (delK es k)))) : WCall c i (.con (.builtin "dict.pop")) [.ref a, .str k] ρ Q X σ := fun v' us iv iu f fr z s _ _ g R => by
  cases iv
  obtain ⟨u1, u2, rfl, i1, i2⟩ := iu.two
  cases i1
  obtain ⟨tk, rfl⟩ := i2
  obtain ⟨l, kvs, hk, r⟩ := Rel.sdict R hd
  obtain ⟨u, hu, is⟩ := getK_some r hv
  refine call_meetsIn PySem.F.slot_dict_pop hk.typeIs PySem.F.entry_dict_pop (PySem.F.args_dict_pop_2 _ _) (meets_dict_pop_there (PySem.strKind c.prog c.w) a (PySem.strKind_is _ _ k tk) [] (.inl rfl) rfl)
    ⟨kvs, u, hk, size_ok (by rw [← r.length]; exact hz), hu, fun h' hk' hs => ⟨v, _, is, R.upd (t' := t) (mo' := .sdict (delK es k)) hd rfl rfl (.of_same hs (R.neL hd)) ⟨l, ?_⟩, h⟩⟩
  obtain ⟨o, ho, hd'⟩ := Heap.dictOf_iff.mp hk'
  exact ⟨o, ho, _, hd', delK_all r k⟩
theorem all2_drop {α β : Type} {Rl : α → β → Prop} : ∀ (k : Nat) {l : List α} {m : List β}, All2 Rl l m → All2 Rl (l.drop k) (m.drop k)
  | 0, _, _, h => h
  | k + 1, _, _, .nil => .nil
  | k + 1, _, _, .cons _ h => all2_drop k h
theorem all2_take {α β : Type} {Rl : α → β → Prop} : ∀ (k : Nat) {l : List α} {m : List β}, All2 Rl l m → All2 Rl (l.take k) (m.take k)
  | 0, _, _, _ => .nil
  | k + 1, _, _, .nil => .nil
  | k + 1, _, _, .cons r h => .cons r (all2_take k h)
theorem pick_both (items : Array Value) (a b : Nat) (h : a ≤ b) : slicePick items (some (a : Int)) (some (b : Int)) Option.none = ((items.toList.take b).drop a).toArray := by
  rw [slicePick_plain]
  simp only [Option.elim, clipAt_nat]
  congr 1
  rw [List.drop_take]
  rcases Nat.le_total b items.size with hb | hb
  · rw [Nat.min_eq_left hb, Nat.min_eq_left (Nat.le_trans h hb)]
  · rw [Nat.min_eq_right hb]
    rcases Nat.le_total a items.size with ha | ha
    · rw [Nat.min_eq_left ha, List.take_of_length_le (by simp), List.take_of_length_le (by simp; omega)]
    · rw [Nat.min_eq_right ha, List.drop_of_length_le (by simp), List.drop_of_length_le (by simpa using ha)]; simp
theorem WE.sliceBoth {nm np lo hi p pos} (t : Nat) (h : WE c i (.Name nm np) ρ (fun a σ₁ => WE c i lo ρ (fun b σ₂ => WE c i hi ρ (fun d σ₃ => ∃ l xs, ∃ j k : Nat, a = .ref l ∧ b = .int j ∧ d = .int k ∧ j ≤ k ∧ ListAt σ₃ l xs ∧ xs.length ≤ 1000000 ∧
    ∀ B, Fresh σ₃ B → Q (.ref B) (σ₃.put B t (.list ((xs.take k).drop j)))) X σ₂) X σ₁) X σ) : WE c i (.Subscript (.Name nm np) (.Slice (some lo) (some hi) Option.none p) pos) ρ Q X σ := fun f fr z s a b g R => by
  refine wpAny_Subscript_list_slice (wuse (h f fr z s a b g R) (fun v s₁ _ σ₁ i1 R₁ h₁ => wpAny_evalPart_some (wuse (h₁ f fr z s₁ a b g R₁) (fun u s₂ _ σ₂ i2 R₂ h₂ => wpAny_evalPart_some (wpAny_mono (h₂ f fr z s₂ a b g R₂) (fun u' s₃ ⟨_, σ₃, i3, R₃, l, xs, j, k, e1, e2, e3, hjk, hl, hz, h₃⟩ => ?_) fun _ _ x => x)) fun _ _ x => x)) fun _ _ x => x)
  subst e1; subst e2; subst e3
  cases i1; obtain ⟨tk, rfl⟩ := i2; obtain ⟨tk', rfl⟩ := i3
  obtain ⟨its, hi', r⟩ := R₃.isList hl
  have e : its.size = xs.length := by rw [r.length]; simp
  refine ⟨l, its, some j, some k, rfl, hi', size_ok (by rw [e]; exact hz), .int _ _, .int _ _, ?_⟩
  rw [pick_both its j k hjk]
  have kp : ∀ b o, s₃.heap.get? b = some o → ((s₃.heap.push { cls := .type "slice", data := .fields #[.int (j : Int) tk, .int (k : Int) tk', .none] }).push { cls := .type "list", data := .seq ((its.toList.take k).drop j).toArray }).get? b = some o :=
    fun b o e => Heap.get?_push_of_some _ (Heap.get?_push_of_some _ e)
  have hD : ((s₃.heap.push { cls := .type "slice", data := .fields #[.int (j : Int) tk, .int (k : Int) tk', .none] }).push { cls := .type "list", data := .seq ((its.toList.take k).drop j).toArray }).get? (s₃.heap.objs.size + 1) = some (listOf ((its.toList.take k).drop j).toArray 0) := by
    have e1 := Heap.get?_push_size (s₃.heap.push { cls := .type "slice", data := .fields #[.int (j : Int) tk, .int (k : Int) tk', .none] }) (o := { cls := .type "list", data := .seq ((its.toList.take k).drop j).toArray }) rfl
    rw [Heap.size_push] at e1
    exact e1
  refine ⟨.ref (s₃.heap.objs.size + 1), _, rfl, R₃.alloc (mo := .list ((xs.take k).drop j)) (tk := s₃.toks) t (.of_grown kp) (Nat.le_succ _) (fun q => by cases q) ⟨_, _, hD, ?_⟩, h₃ _ fun a p e => Nat.lt_succ_of_lt (R₃.some_lt e)⟩
  simpa using all2_drop j (all2_take k r)
end
end Mine
open PySem PySem.W PyProof.Rows
namespace Mine
section
variable {c : Cx} {i : Ix} {ρ : Lo} {σ : Hp} {X : SX} {Q : MF → Lo → Hp → Prop}
theorem WS.raise {x : Str} {np cpos pos : Pos} {arg : Expr} {C : Nat} {newId Bn inN B nid initId : String} {bm bmN : List Value} (hn : i.hn = true) (hl : i.sc.names.lookup x = some .globalImplicit) (hg : c.glob x = some (.ref C))
    (hs : specOf c.p x = some (newId, bm)) (Fn : ExcBaseFacts Bn newId inN bmN) (FB : ExcBaseFacts B nid initId bm) (hBn : bm.contains (.type Bn) = true) (hst : noStar arg = true)
    (h : WE c i arg ρ (fun v σ₁ => ∀ e, X true C e ρ σ₁) (X.ex ρ) σ) : WS c i (.Raise (some (.Call (.Name x np) [arg] [] cpos)) none pos) ρ Q X σ := fun f fr z s a b g R => by
  obtain ⟨C', O, hm⟩ := g.top.ownAt hs
  obtain ⟨hd, ⟨u, hu, is⟩ | ⟨hno, _, u, hu, is⟩⟩ := g.ok.glob x _ hg
  · cases is
    have hmg := mg_of g.K g.top.g hu
    have hCC : C' = C := by have := O.bound; rw [hmg] at this; cases this; rfl
    subst hCC
    obtain ⟨tl, N, nm, q, bs, hdct, sn, sub, ab, col, dd, k0, k1, k2, k3, k5, mN, hC, hN, hni, T⟩ := O.own.obj
    have hp : (backTo cpos (starEach [arg] f.env)).any (·.1) = false := back_any (by simp [hst])
    refine wpAny_Raise_call_subU (C := C') (nm := nm) (q := q) (N := N) (bs := bs) (bm := tl) (hdct := hdct) (sn := sn) (sub := sub) (ab := ab) (col := col) (dd := dd) (k0 := k0) (k1 := k1) (k2 := k2) (k3 := k3) (k5 := k5)
      Fn hBn FB (mN := mN) (T.hasType FB.hasBase) (b hn) hp hni ?_
    refine Calls.Name_function_global g.kind (kindAt a hl) (Calls.loadGlobal_global (mg := c.mg) (v := .ref C') (by rw [g.globals]; exact (g.at R).g) hmg ⟨rfl, ?_⟩) hd
    have hW : WEs c i cpos [arg] ρ (fun vs σ₁ => vs.length ≤ 1 ∧ ∀ e, X true C' e ρ σ₁) (X.ex ρ) σ := WEs.cons hst (W.mono h fun v σ₁ hx => WEs.nil ⟨Nat.le_refl 1, hx⟩)
    have hw := hW f fr z s a b g R
    dsimp only at hw
    rw [starEach_cons hst] at hw ⊢
    refine Calls.evalArgs_plain (wpAny_mono hw (fun vs s₂ x => ?_) fun _ _ x => Ex.at x)
    obtain ⟨ms, σ₁, iv, R₁, hlen, hX⟩ := x
    have kp : ∀ b o, f.base.get? b = some o → s₂.heap.get? b = some o := g.keep R₁
    have hvl : vs.length ≤ 1 := by rw [← iv.length]; exact hlen
    exact ⟨rfl, size_ok (Nat.le_trans hvl (by decide)), kp _ _ hC, hN.keeps kp, T.keeps kp, fun h' e mk => ⟨true, C', e, ρ, σ₁, rfl, ⟨s₂.heap, vs, R₁, mk⟩, hX e⟩⟩
  · cases is
    have hm2 := mg_none_of g.K g.top.g hno
    have := O.bound
    rw [hm2] at this
    cases this
end
theorem funFrames_of {h base : Heap} : ∀ {l : List Env}, (∀ env ∈ l, env.scope.kind ≠ .module ∧ ∃ L o, env.frame = some L ∧ h.get? L = some o ∧ (∀ vs, o.data ≠ .fields vs) ∧ base.get? L = none) → h.FunFrames base l
  | [], _ => trivial
  | env :: l, k => by
    obtain ⟨k1, L, o, k2, k3, k4, k5⟩ := k env (.head _)
    exact ⟨k1, ⟨L, o, k2, k5, k3, k4⟩, funFrames_of fun e he => k e (.tail _ he)⟩
theorem leave_call {c : Cx} {n : Nat} {f : Fm} {fr : Nat → Option Obj} {ρ ρ' : Lo} {σ σ' : Hp} {z s s'' : Shared} {qual : Str} {scope : Scope} {fa : Nat} {cd : Value} {ps : List Str} (g : Good c (n + 1) f fr) (R : c.Rel f ρ σ fr z s) (hs : scopeOk scope ps = true) {b : Bool} {C e : Nat}
    (x : XRel c b (newFm f qual scope s.heap.objs.size fa cd) ρ' σ' (restOf σ s) z s'' C e) {P : Unit → Shared → Prop} {E : Value → Shared → Prop} (hP : ∀ s3, XRel c false f ρ σ' fr z s3 C e → P () s3) :
    wpAny c.M (f.A.deeper (envOfC qual scope s.heap.objs.size fa cd)) (leaving (envOfC qual scope s.heap.objs.size fa cd) (.ref e)) P E s'' := by
  have G' := newFm_good g R (qual := qual) (fa := fa) (cd := cd) hs
  have key : ∀ {h : Heap}, c.Rel (newFm f qual scope s.heap.objs.size fa cd) ρ' σ' (restOf σ s) z { s'' with heap := h } → ∀ s3 : Shared, s3.gens = s''.gens → s3.drawn = s''.drawn → s3.os = s''.os → c.Rel f ρ σ' fr z { s3 with heap := h.hide s.heap.objs.size } := fun {h} R'' s3 e1 e2 e3 => by
    have R2 : c.Rel f ρ σ' fr z { s'' with heap := h } := R.back (f' := newFm f qual scope s.heap.objs.size fa cd) g rfl rfl R''
    have al : Alien f σ' fr s.heap.objs.size := R.alienAt (Nat.le_refl _) fun q => (R''.apart _ q).2.1 rfl
    have hn : ∀ t mo, σ' s.heap.objs.size ≠ some (t, mo) := fun t mo q => R''.neL q rfl
    have R3 := R2.alien al (h' := h.hide s.heap.objs.size) (tk := s3.toks) hn fun a o ne ho => (Heap.hide_ne h ne).trans ho
    have e4 : ({ s3 with heap := h.hide s.heap.objs.size } : Shared) = { s'' with heap := h.hide s.heap.objs.size, toks := s3.toks } := by
      cases s3; cases s''; simp at e1 e2 e3 ⊢; exact ⟨e1, e2, e3⟩
    rw [e4]; exact R3
  have hfr : (f.A.deeper (envOfC qual scope s.heap.objs.size fa cd)).frames = some (envOfC qual scope s.heap.objs.size fa cd :: f.top :: f.outer) := G'.frames
  cases b with
  | true =>
    obtain ⟨h, vs, R'', mk⟩ := x
    have fi := G'.frame_in R''
    have ff : h.FunFrames f.base (envOfC qual scope s.heap.objs.size fa cd :: f.top :: f.outer) := funFrames_of fun env he => by
      obtain ⟨k1, L, o, k2, k3, k4, k5⟩ := fi env he
      refine ⟨k1, L, o, k2, ?_, k4, k5⟩
      unfold restOf at k3
      split at k3
      · cases k3
      · exact k3
    refine wpAny_leaves_madeW (base := hideAll h (s.heap.objs.size :: frameAddrs (f.top :: f.outer))) hfr rfl (fun b o q => of_hideAll _ q) (funFrames_hide ff fun env he a ha => ?_) mk fun h' t x1 x2 x3 x4 => ?_
    · rcases List.mem_cons.mp he with rfl | he
      · cases ha; exact .head _
      · exact .tail _ (List.mem_filterMap.mpr ⟨env, he, ha⟩)
    · exact hP _ ⟨h.hide s.heap.objs.size, t, vs, key R'' _ rfl rfl rfl, x1, x3, x2, fun b o q => ((Heap.UpToSlots.of_keeps mk.keeps).trans x4) b o (Heap.of_hide q)⟩
  | false =>
    obtain ⟨h, t, vs, R'', x1, x2, x3, x4⟩ := x
    refine wpAny_leaves_onW hfr rfl x1 fun h' y1 y2 => ?_
    exact hP _ ⟨h.hide s.heap.objs.size, t, vs, key R'' _ rfl rfl rfl, y1, x2, x3.of_slots y2, fun b o q => (x4.trans y2) b o (Heap.of_hide q)⟩
theorem WFn.fnX {c : Cx} {n : Nat} {hn : Bool} {sc : Scope} {a : Nat} {ps : List Str} {body : List Stmt} {scope : Scope} (F : FnAt c a ps body scope) {as : List MV} {ρ : Lo} {Q : MV → Hp → Prop} {X : EX} {σ : Hp} (hl : as.length = ps.length)
    (h : WSs c ⟨n, hn, scope⟩ body (bindLo ps as fun _ => none) (fun m _ σ' => Q m.val σ') (fun _ C e _ σ' => X false C e σ') σ) : WFn c ⟨n + 1, hn, sc⟩ a as ρ Q X σ := fun us iu f fr z s hsc hh g R => by
  obtain ⟨⟨oc, od, osl, name, qual, params, dV, kV, doc, pm, an, cdv, ct, ho, hcd, hb⟩, hs⟩ := F
  obtain ⟨hk, hco, hgen, hps, hcl, hnd⟩ := scopeOk_of hs
  have hroom : f.A.depth < recursionLimit := by have := g.room; omega
  refine codeAny_call_function hroom (g.inK R _ _ ho) rfl hco hgen rfl (codeRec_of (g.inK R) hcd) ?_
  rw [hb us (by rw [← iu.length, hl])]
  refine wpAny_pure ?_
  refine wpAny_newFunctionEnv_cells hk (fun x hx => ?_) fun env' he s' x => ?_
  · have hx' := hps x.1 (List.of_mem_zip hx).1
    exact hx'.imp id fun q => ⟨q, cellsFrom_some _ _ _ (.inl q)⟩
  · subst he
    refine ⟨(g.at R).nolimit.keeps x.toInCall.keep, codeAny_func ?_⟩
    have G' := newFm_good g R (qual := qual) (fa := a) (cd := cdv) hs
    have R' := newFm_rel g R (qual := qual) (fa := a) (cd := cdv) hs iu x
    refine wuse6 (h (newFm f qual scope s.heap.objs.size a cdv) _ z s' rfl (fun q => hh q) G' R') (fun fl s'' m ρ' σ' is R'' q => ?_) fun ev s'' x => ?_
    · refine ⟨m.val, σ', ?_, R.back (f' := newFm f qual scope s.heap.objs.size a cdv) g rfl rfl R'', q⟩
      cases m with
      | ret v => obtain ⟨u, rfl, is⟩ := is; exact is
      | next => cases is; rfl
      | brk => cases is; rfl
      | cont => cases is; rfl
    · obtain ⟨b, C, e, ρ', σ', rfl, xr, hx⟩ := x
      exact leave_call g R hs xr fun s3 x3 => ⟨false, C, e, ρ, σ', rfl, x3, rfl, hx⟩
end Mine
open PySem PySem.W PyProof.Rows
namespace Mine
theorem Rel.landed {c : Cx} {n : Nat} {f : Fm} {fr : Nat → Option Obj} {ρ : Lo} {σ : Hp} {z s : Shared} {h h' : Heap} (g : Good c n f fr) (R : c.Rel f ρ σ fr z { s with heap := h })
    (B : ∀ b o, (hideAll h (frameAddrs (f.top :: f.outer))).get? b = some o → h'.get? b = some o) (U : h.UpToSlots h') (N : ∀ m, h.Ns f.L m → h'.Ns f.L m) : c.Rel f ρ σ fr z { s with heap := h' } := by
  have st : ∀ a, a ∉ frameAddrs (f.top :: f.outer) → ∀ o, h.get? a = some o → h'.get? a = some o := fun a ha o ho => B a o (hideAll_get _ ho ha)
  have own : ∀ a t mo, σ a = some (t, mo) → a ∉ frameAddrs (f.top :: f.outer) := fun a t mo e hm => by
    rcases g.slots a hm with q | q
    · exact R.neL e q
    · obtain ⟨o, ho⟩ := g.slotIn a q
      by_cases hk : mo.isK = true
      · cases mo <;> first | cases hk | skip
        have := R.kl a t _ _ e
        rw [g.apart a q] at this; cases this
      · have := (R.apart a (Foot.of_some e (by simpa using hk))).1
        rw [ho] at this; cases this
  have nf : ∀ a o, a ∈ frameAddrs (f.top :: f.outer) → fr a = some o → ∀ vs, o.data ≠ .fields vs := fun a o hm e => by
    obtain ⟨env, he, hf⟩ := List.mem_filterMap.mp hm
    rcases List.mem_cons.mp he with rfl | he
    · obtain ⟨L, hL, hc, _⟩ := g.topL
      rw [hL] at hf
      cases hf
      rcases hc with q | ⟨_, o', ho', hd⟩
      · have := R.frame.1; rw [q] at e; rw [this] at e; cases e
      · rw [ho'] at e; cases e; exact hd
    · obtain ⟨_, L, o', hf', _, ho', hd⟩ := g.outer env he
      rw [hf'] at hf
      cases hf
      rw [ho'] at e; cases e; exact hd
  exact {
    same := R.same
    keep := fun a o e => by
      obtain ⟨sl, e1, e2⟩ := R.keep a o e
      by_cases hm : a ∈ frameAddrs (f.top :: f.outer)
      · rcases g.slots a hm with q | q
        · have := R.frame.1; rw [q] at e; rw [this] at e; cases e
        · obtain ⟨sl', e3⟩ := U a _ e1 (nf a o hm e)
          exact ⟨sl', e3, fun q' => absurd q q'⟩
      · exact ⟨sl, st a hm _ e1, e2⟩
    objs := fun a t mo e => (R.objs a t mo e).of_same (fun o ho => st a (own a t mo e) o ho) fun d o hi ha ho => by
      refine st d (fun hm => ?_) o ho
      subst ha
      cases mo <;> first | cases hi | skip
      have hf := R.apart d (.inr ⟨_, _, _, e⟩)
      rcases g.slots d hm with q | q
      · exact hf.2.1 q
      · obtain ⟨o', ho'⟩ := g.slotIn d q
        rw [hf.1] at ho'; cases ho'
    wf := R.wf
    apart := R.apart
    ns := by obtain ⟨m, hn, q⟩ := R.ns; exact ⟨m, N m hn, q⟩
    cel := fun x k hk => by
      obtain ⟨o, v, ho, r⟩ := R.cel x k hk
      refine ⟨o, v, st k (fun hm => ?_) o ho, r⟩
      have hf := R.frame.2 x k hk
      rcases g.slots k hm with q | q
      · exact hf.2 q
      · obtain ⟨o', ho'⟩ := g.slotIn k q
        rw [hf.1] at ho'; cases ho'
    frame := R.frame
    kl := R.kl }
end Mine
open PySem PySem.W PyProof.Rows
namespace Mine
theorem matches_own {M : Model} {A : Around} {E : Value → Shared → Prop} {s : Shared} {K : Frag} {e C D : Nat} {oe : Obj} {b : Bool} {Q : Bool → Shared → Prop} (X : K.In s.heap) (he : s.heap.get? e = some oe) (hc : oe.cls = .ref C)
    (h0 : (clsIn K D).isSome = true) (h1 : typeIn K (.ref D) = some (.type "type")) (h2 : subIn K (.ref D) (.type "BaseException") = some true) (h3 : subIn K (.ref C) (.ref D) = some b) (hq : Q b s) : wpAny M A (excMatches (.ref e) (.ref D)) Q E s := by
  have LT := looks_typeIn (M := M) X h1
  have LD := looks_subIn (M := M) X h2
  have LC := looks_subIn (M := M) X h3
  have LI : Looks M s.heap (isInstance (.ref D) (.type "tuple")) false := LT.andThen (Looks.of_pure tc_notTuple)
  have LY : Looks M s.heap (isType (.ref D)) true := by
    unfold clsIn at h0
    split at h0
    · rename_i c' d' cd' sl' ho
      intro A' Q' E' s' k q
      unfold isType loadHead
      exact wpAny_bind (wpAny_loadPart (k _ _ (X _ _ ho)) (wpAny_pure q))
    · cases h0
  have LE : Looks M s.heap (isExcClass (.ref D)) true := LY.andThen LD
  have Le : Looks M s.heap (typeOf (.ref e)) (.ref C) := hc ▸ (Looks.ld he).andThen .now
  unfold excMatches
  refine wpAny_bind (LI.here ?_)
  cases b <;> (repeat (first | (with_reducible refine LE.here ?_) | (with_reducible refine Le.here ?_) | (with_reducible refine LC.here ?_) | wp_step)) <;> exact hq
theorem noteFrame_home {env env' : Env} (h : env.frame = env'.frame) (e : Value) : noteFrame e env = noteFrame e env' := by
  unfold noteFrame PySem.frameOf; rw [h]
theorem funFrames_at {h base : Heap} : ∀ {l : List Env}, h.FunFrames base l → ∀ env ∈ l, ∃ L o, env.frame = some L ∧ h.get? L = some o ∧ ∀ vs, o.data ≠ .fields vs
  | env :: l, ⟨_, ⟨L, o, k2, _, k3, k4⟩, r⟩, e, he => by
    rcases List.mem_cons.mp he with rfl | he
    · exact ⟨L, o, k2, k3, k4⟩
    · exact funFrames_at r e he
theorem fly_none {h h' : Heap} {l : List Env} {e : Nat} {cls a0 : Value} (fl : Heap.FlyingW (hideAll h (frameAddrs l)) l e cls a0 h') : h.get? e = none := by
  cases q : h.get? e with
  | none => rfl
  | some o =>
    by_cases hm : e ∈ frameAddrs l
    · obtain ⟨env, he, hf⟩ := List.mem_filterMap.mp hm
      obtain ⟨L, o', h1, h2, h3⟩ := funFrames_at fl.2.2.1 env he
      obtain ⟨oe, ws, hoe, hoec, hoed, hoe0⟩ := fl.first
      rw [h1] at hf
      cases hf
      rw [hoe] at h2
      cases h2
      exact absurd hoed (h3 _)
    · have := hideAll_get _ q hm
      rw [fl.2.1] at this
      cases this
section
variable {c : Cx} {n : Nat} {f : Fm} {fr : Nat → Option Obj} {ρ : Lo} {σ : Hp} {z s : Shared} {C e : Nat}
theorem XRel.rel (g : Good c n f fr) (x : XRel c false f ρ σ fr z s C e) : c.Rel f ρ σ fr z s := by
  obtain ⟨h, t, vs, R, fl, ht, tup, U⟩ := x
  exact R.landed g (h' := s.heap) fl.1 U fun m hn => U.ns hn
theorem XRel.exc (g : Good c n f fr) (x : XRel c false f ρ σ fr z s C e) (t : Nat) : c.Rel f ρ (σ.put e t (.exc C)) fr z s := by
  have R' := x.rel g
  obtain ⟨h, t', vs, R, fl, ht, tup, U⟩ := x
  have hn : h.get? e = none := fly_none fl
  obtain ⟨oe, ws, hoe, hoec, hoed, hoe0⟩ := fl.first
  exact {
    same := R'.same
    keep := R'.keep
    objs := fun a t1 mo q => by
      by_cases ha : a = e
      · subst ha; rw [Hp.put_self] at q; cases q; exact ⟨oe, hoe, hoec, by unfold notCls; rw [hoed]⟩
      · rw [Hp.put_ne _ _ _ ha] at q; exact R'.objs a t1 mo q
    wf := fun a t1 C' fs q => by
      by_cases ha : a + 1 = e
      · rw [ha, Hp.put_self] at q; cases q
      · rw [Hp.put_ne _ _ _ ha] at q
        by_cases hb : a = e
        · subst hb
          obtain ⟨o, ho⟩ := (R.objs _ t1 _ q).dict_there
          exact absurd (hn.symm.trans ho) nofun
        · rw [Hp.put_ne _ _ _ hb]; exact R'.wf a t1 C' fs q
    apart := fun a fa => by
      by_cases ha : a = e
      · subst ha
        refine ⟨?_, fun q => ?_, fun y k hk q => ?_⟩
        · cases q : fr a with
          | none => rfl
          | some o => obtain ⟨sl, ho, _⟩ := R.keep a o q; exact absurd (hn.symm.trans ho) nofun
        · obtain ⟨m, ⟨o, es, ep, ho, _⟩, _⟩ := R.ns
          rw [← q] at ho
          exact absurd (hn.symm.trans ho) nofun
        · obtain ⟨o, v, ho, _⟩ := R.cel y k hk
          rw [← q] at ho
          exact absurd (hn.symm.trans ho) nofun
      · refine R'.apart a ?_
        rcases fa with ⟨t1, mo, fa, fk⟩ | ⟨t1, C', fs, fa⟩
        · rw [Hp.put_ne _ _ _ ha] at fa; exact .of_some fa fk
        · by_cases hb : a + 1 = e
          · rw [hb, Hp.put_self] at fa; cases fa
          · rw [Hp.put_ne _ _ _ hb] at fa; exact .inr ⟨t1, C', fs, fa⟩
    ns := R'.ns
    cel := R'.cel
    frame := R'.frame
    kl := fun a t1 xs o q => by
      by_cases ha : a = e
      · subst ha; rw [Hp.put_self] at q; cases q
      · rw [Hp.put_ne _ _ _ ha] at q; exact R'.kl a t1 xs o q }
end
def Lo.del (ρ : Lo) (x : Str) : Lo := fun y => if y = x then none else ρ y
theorem Rel.delLocal {c : Cx} {f : Fm} {ρ : Lo} {σ : Hp} {fr : Nat → Option Obj} {z s : Shared} (R : c.Rel f ρ σ fr z s) {x : Str} {v : Option Value} {m : Str → Option Value} {h' : Heap} {tk : Nat}
    (hm : ∀ y, f.env.scope.names.lookup y = some .local → OptIs (ρ y) (m y)) (hn : h'.Ns f.env.locals (fun y => if y = x then v else m y)) (hs : Heap.SameBut f.env.locals s.heap h')
    (hc : ∀ k, (x, k) ∉ f.env.cells) (hcl : ∀ y k, (y, k) ∈ f.env.cells → k ≠ f.env.locals) : c.Rel f (ρ.del x) σ fr z { s with heap := h', toks := tk } where
  same := R.same
  keep := fun a o e => let ⟨sl, e1, e2⟩ := R.keep a o e; ⟨sl, (hs.2 a fun q => by have := R.frame.1; rw [show f.L = a from q.symm, e] at this; cases this).trans e1, e2⟩
  objs := fun a t mo e => (R.objs a t mo e).of_same (fun o e' => (hs.2 a (R.neL e)).trans e') fun d o hi ed e' => (hs.2 d (by
    subst ed
    cases mo <;> first | cases hi | skip
    exact (R.apart d (.inr ⟨_, _, _, e⟩)).2.1)).trans e'
  wf := R.wf
  apart := R.apart
  ns := ⟨_, hn, fun y hy => by
    by_cases q : y = x
    · subst q; simp only [Lo.del, if_true]; exact trivial
    · simp only [Lo.del, if_neg q]; exact hm y hy⟩
  cel := fun y k hk => by
    obtain ⟨o, v', e, d, r⟩ := R.cel y k hk
    refine ⟨o, v', (hs.2 k (hcl y k hk)).trans e, d, ?_⟩
    have : y ≠ x := fun q => hc k (q ▸ hk)
    simp only [Lo.del, if_neg this]; exact r
  frame := R.frame
  kl := R.kl
def WH (c : Cx) (i : Ix) (hs : List ExceptHandler) (C e : Nat) (ρ : Lo) (Q : MF → Lo → Hp → Prop) (X : SX) (σ : Hp) : Prop :=
  ∀ f fr z s, f.env.scope = i.sc → (i.hn = true → f.A.handled = none) → Good c i.n f fr → XRel c false f ρ σ fr z s C e →
    wpAny c.M f.A (handleBy (.ref e) f.env hs) (fun fl s' => ∃ m ρ' σ', MF.Is m fl ∧ c.Rel f ρ' σ' fr z s' ∧ Q m ρ' σ') (XPost c f fr z X) s
section
variable {c : Cx} {i : Ix} {ρ : Lo} {σ : Hp} {X : SX} {Q : MF → Lo → Hp → Prop}
theorem WS.try {body : List Stmt} {h₀ : ExceptHandler} {hs : List ExceptHandler} {pos : Pos} (h : WSs c i body ρ Q (fun b C e ρ₁ σ₁ => b = false ∧ WH c i (h₀ :: hs) C e ρ₁ Q X σ₁) σ) : WS c i (.Try body (h₀ :: hs) [] [] pos) ρ Q X σ := fun f fr z s a b g R => by
  refine wpAny_Try_except (wpAny_mono (h f fr z s a b g R) (fun fl s₁ x => ?_) fun ev s₁ x => ?_)
  · obtain ⟨m, ρ', σ', is, R₁, q⟩ := x
    cases m with
    | next => cases is; exact wpAny_execs_nil ⟨.next, ρ', σ', rfl, R₁, q⟩
    | brk => cases is; exact ⟨.brk, ρ', σ', rfl, R₁, q⟩
    | cont => cases is; exact ⟨.cont, ρ', σ', rfl, R₁, q⟩
    | ret v => obtain ⟨u, rfl, is⟩ := is; exact ⟨.ret v, ρ', σ', ⟨u, rfl, is⟩, R₁, q⟩
  · obtain ⟨b', C, e, ρ', σ', rfl, xr, rfl, hw⟩ := x
    obtain ⟨h₁, t, vs, R₁, fl, ht, tup, U⟩ := xr
    obtain ⟨L, hL, _⟩ := g.topL
    rw [noteFrame_home g.home]
    refine wpAny_looks_onW g.frames hL fl fun h₄ held U₄ => ?_
    refine wpAny_landsW held fun h₅ fl₅ U₅ => ?_
    exact hw f fr z _ a b g ⟨h₁, t, vs, R₁, fl₅, ht, (tup.of_slots U₄).of_slots U₅, (U.trans U₄).trans U₅⟩
structure HandOk (c : Cx) (i : Ix) (x : Str) (D : Nat) : Prop where
  kind : i.sc.names.lookup x = some .globalImplicit
  glob : c.glob x = some (.ref D)
  cls : (clsIn c.K D).isSome = true
  typ : typeIn c.K (.ref D) = some (.type "type")
  exc : subIn c.K (.ref D) (.type "BaseException") = some true
theorem test_own {x : Str} {np pos : Pos} {C D e : Nat} {b : Bool} (ho : HandOk c i x D) (hsub : subIn c.K (.ref C) (.ref D) = some b) {f : Fm} {fr : Nat → Option Obj} {z s : Shared} {P : Result → Shared → Prop} (a : f.env.scope = i.sc) (g : Good c i.n f fr)
    (xr : XRel c false f ρ σ fr z s C e) (h : P (.ok (if b then .brk else .next)) s) : codeAny c.M (f.A.mark (some (.ref e))) (.handlers (.ref e) [.ExceptHandler (some (.Name x np)) none [] pos] f.env) P s := by
  have R := xr.rel g
  obtain ⟨h₁, t, vs, R₁, fl, ht, tup, U⟩ := xr
  obtain ⟨oe, ws, hoe, hoec, hoed, hoe0⟩ := fl.first
  refine codeAny_handlers_test ?_
  obtain ⟨hd, ⟨u, hu, is⟩ | ⟨hno, hn, u, hu, is⟩⟩ := g.ok.glob x _ ho.glob
  · cases is
    exact Calls.Name_function_global g.kind (kindAt a ho.kind) (Calls.loadGlobal_global (mg := c.mg) (v := .ref D) (by rw [g.globals]; exact (g.at R).g) (mg_of g.K g.top.g hu) (matches_own (K := c.K) (g.inK R) hoe hoec ho.cls ho.typ ho.exc hsub h)) hd
  · cases is
    exact Calls.Name_function_global g.kind (kindAt a ho.kind) (Calls.loadGlobal_builtin (mg := c.mg) (mb := c.mb) (v := .ref D) (by rw [g.globals]; exact (g.at R).g) (mg_none_of g.K g.top.g hno) (by rw [g.builtins]; exact (g.at R).b)
      ((g.top.builtins x hn).trans hu) (matches_own (K := c.K) (g.inK R) hoe hoec ho.cls ho.typ ho.exc hsub h)) hd
theorem WH.miss {x : Str} {np : Pos} {nm : Option Str} {suite : List Stmt} {pos : Pos} {rest : List ExceptHandler} {C D e : Nat} (ho : HandOk c i x D) (hsub : subIn c.K (.ref C) (.ref D) = some false) (h : WH c i rest C e ρ Q X σ) :
    WH c i (.ExceptHandler (some (.Name x np)) nm suite pos :: rest) C e ρ Q X σ := fun f fr z s a b g xr => wpAny_handleBy_cons (test_own ho hsub a g xr (h f fr z s a b g xr)) (by intro q; cases q)
theorem Good.marked {n : Nat} {f : Fm} {fr : Nat → Option Obj} (g : Good c n f fr) {o : Option Value} : Good c n { f with A := f.A.mark o } fr := by
  exact {
      ok := g.ok, base := g.base, apart := g.apart, K := g.K, top := g.top, kind := g.kind, globals := g.globals, celled := g.celled, cellk := g.cellk, cellnd := g.cellnd, builtins := g.builtins
      room := g.room, units := g.units, frames := g.frames, topk := g.topk, low := g.low, slots := g.slots, topL := g.topL, slotIn := g.slotIn, home := g.home, outer := g.outer }
theorem WH.hit {x : Str} {np : Pos} {b₀ : Stmt} {suite : List Stmt} {pos : Pos} {rest : List ExceptHandler} {C D e : Nat} (ho : HandOk c i x D) (hsub : subIn c.K (.ref C) (.ref D) = some true) (h : WSs c ⟨i.n, false, i.sc⟩ (b₀ :: suite) ρ Q noSX σ) :
    WH c i (.ExceptHandler (some (.Name x np)) none (b₀ :: suite) pos :: rest) C e ρ Q X σ := fun f fr z s a b g xr => by
  refine wpAny_handleBy_cons (test_own ho hsub a g xr ?_) (by intro q; cases q)
  obtain ⟨h₁, t, vs, R₁, fl, ht, tup, U⟩ := xr
  show codeAny _ _ _ _ _
  refine codeAny_handlers_suite (lands_againW fl fun h₆ fl₆ U₆ => ?_)
  have xr₆ : XRel c false f ρ σ fr z { s with heap := h₆ } C e := ⟨h₁, t, vs, R₁, fl₆, ht, tup.of_slots U₆, U.trans U₆⟩
  refine wpAny_mono (h { f with A := f.A.mark (some (.ref e)) } fr z _ a (fun q => by cases q) g.marked (xr₆.rel g).withA) (fun fl s₂ x => ?_) fun _ _ x => noSX_elim x
  obtain ⟨m, ρ', σ', is, R₇, q⟩ := x
  exact ⟨m, ρ', σ', is, R₇.ofA, q⟩
theorem WH.hitAs {x y : Str} {np : Pos} {b₀ : Stmt} {suite : List Stmt} {pos : Pos} {rest : List ExceptHandler} {C D e : Nat} (t : Nat) (ho : HandOk c i x D) (hsub : subIn c.K (.ref C) (.ref D) = some true) (hl : i.sc.names.lookup y = some .local)
    (h : σ e = none → WSs c ⟨i.n, false, i.sc⟩ (b₀ :: suite) (ρ.put y (.ref e)) (fun m ρ' σ' => Q m (ρ'.del y) σ') noSX (σ.put e t (.exc C))) :
    WH c i (.ExceptHandler (some (.Name x np)) (some y) (b₀ :: suite) pos :: rest) C e ρ Q X σ := fun f fr z s a b g xr => by
  refine wpAny_handleBy_cons (test_own ho hsub a g xr ?_) (by intro q; cases q)
  obtain ⟨h₁, t', vs, R₁, fl, ht, tup, U⟩ := xr
  show codeAny _ _ _ _ _
  refine codeAny_handlers_suite_as (lands_againW fl fun h₆ fl₆ U₆ => ?_)
  have xr₆ : XRel c false f ρ σ fr z { s with heap := h₆ } C e := ⟨h₁, t', vs, R₁, fl₆, ht, tup.of_slots U₆, U.trans U₆⟩
  have fresh : σ e = none := by
    cases q : σ e with
    | none => rfl
    | some p => obtain ⟨t1, mo⟩ := p; obtain ⟨o, ho⟩ := (R₁.objs e t1 mo q).there; exact absurd ((fly_none fl).symm.trans ho) nofun
  have hW : WSt c ⟨i.n, false, i.sc⟩ y (.ref e) ρ (fun ρ₁ σ₁ => WSs c ⟨i.n, false, i.sc⟩ (b₀ :: suite) ρ₁ (fun m ρ' σ' => Q m (ρ'.del y) σ') noSX σ₁) noSX (σ.put e t (.exc C)) := WSt.local hl (h fresh)
  refine wuse4 (hW (.ref e) rfl { f with A := f.A.mark (some (.ref e)) } fr z _ a (fun q => by cases q) g.marked (xr₆.exc g t).withA) (fun _ s₂ ρ₂ σ₂ R₂ h₂ => ?_) fun _ _ x => noSX_elim x
  refine wpAny_mono (h₂ { f with A := f.A.mark (some (.ref e)) } fr z _ a (fun q => by cases q) g.marked R₂) (fun fl s₃ x => ?_) fun _ _ x => noSX_elim x
  obtain ⟨m, ρ', σ', is, R₇, q⟩ := x
  have R₈ : c.Rel f ρ' σ' fr z s₃ := R₇.ofA
  obtain ⟨mm, hn, hm⟩ := R₈.ns
  refine wpAny_nameGoes_keeps (kindAt a hl) hn ?_ fun h' v hn' hs' => ⟨m, ρ'.del y, σ', is, R₈.delLocal hm hn' hs' (fun k hk => g.cellk y k hk (kindAt a hl)) (fun y k hk => g.cellnd.2.2 y k hk), q⟩
  rw [g.kind]; rfl
end
section
variable {c : Cx} {n : Nat} {hn : Bool} {sc : Scope} {ρ : Lo} {σ : Hp} {X : SX} {Q : MF → Lo → Hp → Prop}
theorem WH.hitA {x : Str} {np : Pos} {b₀ : Stmt} {suite : List Stmt} {pos : Pos} {rest : List ExceptHandler} {C D e : Nat} (ho : HandOk c ⟨n, hn, sc⟩ x D) (hsub : subIn c.K (.ref C) (.ref D) = some true) (h : WSs c ⟨n, false, sc⟩ (b₀ :: suite) ρ Q noSX σ) :
    WH c ⟨n, hn, sc⟩ (.ExceptHandler (some (.Name x np)) none (b₀ :: suite) pos :: rest) C e ρ Q X σ := WH.hit ho hsub h
theorem WH.hitAsA {x y : Str} {np : Pos} {b₀ : Stmt} {suite : List Stmt} {pos : Pos} {rest : List ExceptHandler} {C D e : Nat} (t : Nat) (ho : HandOk c ⟨n, hn, sc⟩ x D) (hsub : subIn c.K (.ref C) (.ref D) = some true) (hl : sc.names.lookup y = some .local)
    (h : σ e = none → WSs c ⟨n, false, sc⟩ (b₀ :: suite) (ρ.put y (.ref e)) (fun m ρ' σ' => Q m (ρ'.del y) σ') noSX (σ.put e t (.exc C))) :
    WH c ⟨n, hn, sc⟩ (.ExceptHandler (some (.Name x np)) (some y) (b₀ :: suite) pos :: rest) C e ρ Q X σ := WH.hitAs t ho hsub hl h
end
section
variable {c : Cx} {n : Nat} {hn : Bool} {sc : Scope} {a : Nat} {body : List Stmt} {scope : Scope} {ρ : Lo} {Q : MV → Hp → Prop} {X : EX} {σ : Hp} {p1 p2 p3 p4 : Str} {a1 a2 a3 a4 : MV}
theorem WFn.fn1X (F : FnAt c a [p1] body scope) (h : WSs c ⟨n, hn, scope⟩ body (ρ0.put p1 a1) (fun m _ σ' => Q m.val σ') (fun _ C e _ σ' => X false C e σ') σ) : WFn c ⟨n + 1, hn, sc⟩ a [a1] ρ Q X σ := WFn.fnX F rfl h
theorem WFn.fn2X (F : FnAt c a [p1, p2] body scope) (h : WSs c ⟨n, hn, scope⟩ body ((ρ0.put p1 a1).put p2 a2) (fun m _ σ' => Q m.val σ') (fun _ C e _ σ' => X false C e σ') σ) : WFn c ⟨n + 1, hn, sc⟩ a [a1, a2] ρ Q X σ := WFn.fnX F rfl h
theorem WFn.fn3X (F : FnAt c a [p1, p2, p3] body scope) (h : WSs c ⟨n, hn, scope⟩ body (((ρ0.put p1 a1).put p2 a2).put p3 a3) (fun m _ σ' => Q m.val σ') (fun _ C e _ σ' => X false C e σ') σ) : WFn c ⟨n + 1, hn, sc⟩ a [a1, a2, a3] ρ Q X σ := WFn.fnX F rfl h
theorem WFn.fn4X (F : FnAt c a [p1, p2, p3, p4] body scope) (h : WSs c ⟨n, hn, scope⟩ body ((((ρ0.put p1 a1).put p2 a2).put p3 a3).put p4 a4) (fun m _ σ' => Q m.val σ') (fun _ C e _ σ' => X false C e σ') σ) : WFn c ⟨n + 1, hn, sc⟩ a [a1, a2, a3, a4] ρ Q X σ := WFn.fnX F rfl h
end
end Mine
open PySem PySem.W PyProof.Rows
namespace Mine
section
variable {prog : Program} {w : World} {A : Around} {E : Value → Shared → Prop} {s : Shared} {Q : Value → Shared → Prop} {K : Frag} {x C : Nat} {o : Obj} {c : Value}
theorem exc_isi (X : K.In s.heap) (hx : s.heap.get? x = some o) (hc : o.cls = .ref C) (e : kitOne K (.ref C) c = some true) (h : ∀ tk, Q (.bool true) { s with toks := tk }) :
    wpAny (model prog w) A (call (.builtin "isinstance") [.ref x, c]) Q E s :=
  call_isinstance (S := fun _ R s => (K.In s.heap ∧ s.heap.get? x = some o) ∧ ∀ tk, R (.ok (.ret (.bool true))) { s with toks := tk })
    (fun prog w A R s hs => isinstance_outer (by
      obtain ⟨h0, g, d, tt, os⟩ := s
      obtain ⟨⟨X, p⟩, hq⟩ := hs
      have LT : Looks (model prog w) h0 (typeOf (.ref x)) (.ref C) := hc ▸ (Looks.ld p).andThen .now
      unfold kitOne at e
      unfold Builtin.«isinstance.nested»
      refine wpAny_bind (LT.at ?_)
      by_cases q : (Value.ref C == c) = true
      · rw [if_pos q]
        exact wpAny_bind (wpAny_rule (wpAny_pure (hq tt)))
      · rw [if_neg q] at e
        rw [if_neg q]
        obtain ⟨hty, his, hsub⟩ := kit_cls (M := model prog w) X e
        have LI : Looks (model prog w) h0 (isInstance (.ref x) c) true := LT.andThen hsub
        refine wpAny_bind (hty.at ?_)
        rw [if_pos (by decide)]
        k_delta "plainIsInstance"
        refine wpAny_bind (wpAny_bind (his.at ?_))
        simp only [Bool.not_true, Bool.false_eq_true, if_false]
        refine wpAny_bind (LI.at ?_)
        simp only [if_true]
        exact wpAny_pure (wpAny_pure (hq tt))) (by intro q; cases q)) ⟨⟨X, hx⟩, h⟩
end
section
variable {c : Cx} {i : Ix} {ρ : Lo} {σ : Hp} {X : EX} {Q : MV → Hp → Prop}
theorem WCall.isExcC {e t C : Nat} {cv : Value} (hm : σ e = some (t, .exc C)) (k : kitOne c.K (.ref C) cv = some true) (h : Q (.bool true) σ) : WCall c i (.con (.builtin "isinstance")) [.ref e, .con cv] ρ Q X σ := fun v us iv iu f fr z s _ _ g R => by
  cases iv
  obtain ⟨u1, u2, rfl, i1, i2⟩ := iu.two
  cases i1; cases i2
  obtain ⟨o, ho, hc, _⟩ := R.objs _ _ _ hm
  exact exc_isi (g.inK R) ho hc k fun tk => ⟨.bool true, σ, rfl, R.toks _, h⟩
theorem WCall.isExcR {e t C D : Nat} (hm : σ e = some (t, .exc C)) (k : kitOne c.K (.ref C) (.ref D) = some true) (h : Q (.bool true) σ) : WCall c i (.con (.builtin "isinstance")) [.ref e, .ref D] ρ Q X σ := fun v us iv iu f fr z s _ _ g R => by
  cases iv
  obtain ⟨u1, u2, rfl, i1, i2⟩ := iu.two
  cases i1; cases i2
  obtain ⟨o, ho, hc, _⟩ := R.objs _ _ _ hm
  exact exc_isi (g.inK R) ho hc k fun tk => ⟨.bool true, σ, rfl, R.toks _, h⟩
theorem WB.pow {m n : Int} (h0 : 0 ≤ n) (h1 : n ≤ 1000000) (h2 : m.natAbs < 2 ^ 64) (h : Q (.int (m ^ n.toNat)) σ) : WB c i .Pow (.int m) (.int n) ρ Q X σ := fun v u iv iu f fr z s _ _ g R => by
  obtain ⟨t, rfl⟩ := iv; obtain ⟨t', rfl⟩ := iu
  exact pow_int_small h0 h1 h2 ⟨.int (m ^ n.toNat), σ, ⟨_, rfl⟩, R.toks _, h⟩
theorem WB.addL {a b : Nat} {xs ys : List MV} (t : Nat) (ha : ListAt σ a xs) (hb : ListAt σ b ys) (hz : xs.length + ys.length ≤ 1000000) (h : ∀ B, Fresh σ B → Q (.ref B) (σ.put B t (.list (xs ++ ys)))) : WB c i .Add (.ref a) (.ref b) ρ Q X σ := fun v u iv iu f fr z s _ _ g R => by
  cases iv; cases iu
  obtain ⟨its, hi, r⟩ := R.isList ha
  obtain ⟨its2, hi2, r2⟩ := R.isList hb
  obtain ⟨m, hn, hm⟩ := R.ns
  have e1 : its.size = xs.length := by rw [r.length]; simp
  have e2 : its2.size = ys.length := by rw [r2.length]; simp
  refine add_arrays (hsz := size_ok (by rw [e1, e2]; exact hz)) (fr_all hn) (news_all s.heap f.env.locals) hi hi2 fun h' F' N' => ?_
  have K' : Kept f.L (fun _ => False) s.heap h' := Kept.of_news hn F' N' fun p hp _ => .tail _ hp
  exact ⟨.ref s.heap.objs.size, _, rfl, R.alloc (mo := .list (xs ++ ys)) (tk := s.toks) t K' (Nat.le_refl _) (fun q => by cases q) ⟨_, 0, (N' (s.heap.objs.size, _) (.head _)).1, by simpa using r.append r2⟩, h _ R.fresh⟩
theorem WE.sliceTo {nm np hi p pos} (t : Nat) (h : WE c i (.Name nm np) ρ (fun a σ₁ => WE c i hi ρ (fun b σ₂ => ∃ l xs, ∃ k : Nat, a = .ref l ∧ b = .int k ∧ ListAt σ₂ l xs ∧ xs.length ≤ 1000000 ∧
    ∀ B, Fresh σ₂ B → Q (.ref B) (σ₂.put B t (.list (xs.take k)))) X σ₁) X σ) : WE c i (.Subscript (.Name nm np) (.Slice Option.none (some hi) Option.none p) pos) ρ Q X σ := fun f fr z s a b g R => by
  refine wpAny_Subscript_list_slice (wuse (h f fr z s a b g R) (fun v s₁ _ σ₁ i1 R₁ h₁ => wpAny_evalPart_none (wpAny_evalPart_some (wpAny_mono (h₁ f fr z s₁ a b g R₁) (fun u s₂ ⟨_, σ₂, i2, R₂, l, xs, k, e1, e2, hl, hz, h₂⟩ => ?_) fun _ _ x => x))) fun _ _ x => x)
  subst e1; subst e2
  cases i1; obtain ⟨tk, rfl⟩ := i2
  obtain ⟨its, hi', r⟩ := R₂.isList hl
  have e : its.size = xs.length := by rw [r.length]; simp
  refine ⟨l, its, Option.none, some (k : Int), rfl, hi', size_ok (by rw [e]; exact hz), .none, .int _ _, ?_⟩
  rw [slicePick_upto']
  have kp : ∀ b o, s₂.heap.get? b = some o → ((s₂.heap.push { cls := .type "slice", data := .fields #[.none, .int (k : Int) tk, .none] }).push { cls := .type "list", data := .seq (its.toList.take k).toArray }).get? b = some o :=
    fun b o e => Heap.get?_push_of_some _ (Heap.get?_push_of_some _ e)
  have hD : ((s₂.heap.push { cls := .type "slice", data := .fields #[.none, .int (k : Int) tk, .none] }).push { cls := .type "list", data := .seq (its.toList.take k).toArray }).get? (s₂.heap.objs.size + 1) = some (listOf (its.toList.take k).toArray 0) := by
    have e1 := Heap.get?_push_size (s₂.heap.push { cls := .type "slice", data := .fields #[.none, .int (k : Int) tk, .none] }) (o := { cls := .type "list", data := .seq (its.toList.take k).toArray }) rfl
    rw [Heap.size_push] at e1
    exact e1
  refine ⟨.ref (s₂.heap.objs.size + 1), _, rfl, R₂.alloc (mo := .list (xs.take k)) (tk := s₂.toks) t (.of_grown kp) (Nat.le_succ _) (fun q => by cases q) ⟨_, _, hD, ?_⟩, h₂ _ fun a p e => Nat.lt_succ_of_lt (R₂.some_lt e)⟩
  simpa using all2_take k r
end
end Mine
open PySem PySem.W PyProof.Rows
namespace Mine
def EqV (c : Cx) (σ : Hp) (k : Nat) (x y : MV) (b : Bool) : Prop := ∀ f ρ fr z s A v u, c.Rel f ρ σ fr z s → x.Is v → y.Is u → A.units + k < cLine → SeqAt.EqAt A s v u b
def RcV (c : Cx) (σ : Hp) (k : Nat) (x y : MV) (b : Bool) : Prop := ∀ f ρ fr z s A v u, c.Rel f ρ σ fr z s → x.Is v → y.Is u → A.units + k < cLine → SeqAt.RcAt A s v u b
def RnV (c : Cx) (σ : Hp) (k : Nat) (x y : MV) (b : Bool) : Prop := ∀ f ρ fr z s A v u, c.Rel f ρ σ fr z s → x.Is v → y.Is u → A.units + k < cLine → SeqAt.RcNeAt A s v u b
abbrev EqVs (c : Cx) (σ : Hp) (k : Nat) (xs ys : List MV) : Prop := All2 (fun x y => EqV c σ k x y true) xs ys
section
variable {c : Cx} {i : Ix} {ρ : Lo} {σ : Hp} {k : Nat}
theorem EqV.int {m n : Int} : EqV c σ k (.int m) (.int n) (m == n) := fun f ρ fr z s A v u R iv iu hu => by obtain ⟨t, rfl⟩ := iv; obtain ⟨t', rfl⟩ := iu; exact .int_int _ _ _ _
theorem EqV.str {m n : Str} : EqV c σ k (.str m) (.str n) (m == n) := fun f ρ fr z s A v u R iv iu hu => by obtain ⟨t, rfl⟩ := iv; obtain ⟨t', rfl⟩ := iu; exact .str_str _ _ _ _
theorem EqV.bool {m n : Bool} : EqV c σ k (.bool m) (.bool n) (m == n) := fun f ρ fr z s A v u R iv iu hu => by cases iv; cases iu; exact .bool_bool _ _
theorem EqV.none : EqV c σ k .none .none true := fun f ρ fr z s A v u R iv iu hu => by cases iv; cases iu; exact .same _
theorem EqV.intT {m n : Int} (h : m = n) : EqV c σ k (.int m) (.int n) true := by have := @EqV.int c σ k m n; rwa [beq_iff_eq.mpr h] at this
theorem EqV.strT {m n : Str} (h : m = n) : EqV c σ k (.str m) (.str n) true := by have := @EqV.str c σ k m n; rwa [beq_iff_eq.mpr h] at this
theorem EqV.boolT {m n : Bool} (h : m = n) : EqV c σ k (.bool m) (.bool n) true := by have := @EqV.bool c σ k m n; rwa [beq_iff_eq.mpr h] at this
theorem EqV.same {a : Nat} : EqV c σ k (.ref a) (.ref a) true := fun f ρ fr z s A v u R iv iu hu => by cases iv; cases iu; exact .same _
theorem EqV.of_rc {a b : Nat} (h : RcV c σ k (.ref a) (.ref b) true) : EqV c σ k (.ref a) (.ref b) true := fun f ρ fr z s A v u R iv iu hu => by
  by_cases q : a = b
  · subst q; exact EqV.same f ρ fr z s A v u R iv iu hu
  · have := h f ρ fr z s A v u R iv iu hu
    cases iv; cases iu; exact .of_refs q this
theorem eqs_at {f : Fm} {fr : Nat → Option Obj} {z s : Shared} {A : Around} {xs ys : List MV} (h : EqVs c σ k xs ys) (R : c.Rel f ρ σ fr z s) (hu : A.units + k < cLine) : ∀ {l m : List Value}, All2 MV.Is xs l → All2 MV.Is ys m → ∀ (j : Nat) (v u : Value), l[j]? = some v → m[j]? = some u → SeqAt.EqAt A s v u true := by
  induction h with
  | nil => intro l m h1 h2 j v u e; cases h1; simp at e
  | cons r _ ih =>
    intro l m h1 h2 j v u e1 e2
    cases h1 with | cons a1 b1 =>
    cases h2 with | cons a2 b2 =>
    cases j with
    | zero => simp at e1 e2; subst e1; subst e2; exact r _ _ _ _ _ _ _ _ R a1 a2 hu
    | succ j => simp at e1 e2; exact ih b1 b2 j v u e1 e2
theorem all_true (n : Nat) : (List.range n).all (fun _ => true) = true := by rw [List.all_eq_true]; exact fun _ _ => rfl
theorem RcV.listT {a b : Nat} {xs ys : List MV} (ha : ListAt σ a xs) (hb : ListAt σ b ys) (h : EqVs c σ k xs ys) : RcV c σ (k + 1) (.ref a) (.ref b) true := fun f ρ fr z s A v u R iv iu hu => by
  cases iv; cases iu
  obtain ⟨its, hi, r⟩ := R.isList ha
  obtain ⟨its2, hi2, r2⟩ := R.isList hb
  have hs : its.size = its2.size := by have := r.length; have := r2.length; have := h.length; simp at *; omega
  have := SeqAt.RcAt.lists (A := A) (e := fun _ => true) hi hi2 hs (by omega) fun j h1 h2 => eqs_at h R (by show A.units + 1 + k < cLine; omega) r r2 j _ _ (by simp [h1]) (by simp [h2])
  rwa [all_true] at this
theorem RcV.listF {a b : Nat} {xs ys : List MV} (ha : ListAt σ a xs) (hb : ListAt σ b ys) (h : xs.length ≠ ys.length) : RcV c σ 1 (.ref a) (.ref b) false := fun f ρ fr z s A v u R iv iu hu => by
  cases iv; cases iu
  obtain ⟨its, hi, r⟩ := R.isList ha
  obtain ⟨its2, hi2, r2⟩ := R.isList hb
  have hs : (its.size != its2.size) = true := by have := r.length; have := r2.length; simp at *; omega
  exact .lists_lengths hi hi2 hs (by omega)
theorem RcV.tupT {a b t t' : Nat} {xs ys : List MV} (ha : σ a = some (t, .tuple xs)) (hb : σ b = some (t', .tuple ys)) (h : EqVs c σ k xs ys) : RcV c σ (k + 1) (.ref a) (.ref b) true := fun f ρ fr z s A v u R iv iu hu => by
  cases iv; cases iu
  obtain ⟨its, hi, r⟩ := Rel.isTuple R ha
  obtain ⟨its2, hi2, r2⟩ := Rel.isTuple R hb
  have hs : its.size = its2.size := by have := r.length; have := r2.length; have := h.length; simp at *; omega
  have := SeqAt.RcAt.tuples (A := A) (e := fun _ => true) hi hi2 (by omega) fun j h1 h2 => eqs_at h R (by show A.units + 1 + k < cLine; omega) r r2 j _ _ (by simp [h1]) (by simp [h2])
  rwa [all_true, hs, beq_self_eq_true] at this
theorem RnV.listT {a b : Nat} {xs ys : List MV} (ha : ListAt σ a xs) (hb : ListAt σ b ys) (h : EqVs c σ k xs ys) : RnV c σ (k + 1) (.ref a) (.ref b) false := fun f ρ fr z s A v u R iv iu hu => by
  cases iv; cases iu
  obtain ⟨its, hi, r⟩ := R.isList ha
  obtain ⟨its2, hi2, r2⟩ := R.isList hb
  have hs : its.size = its2.size := by have := r.length; have := r2.length; have := h.length; simp at *; omega
  have := SeqAt.RcNeAt.lists (A := A) (e := fun _ => true) hi hi2 hs (by omega) fun j h1 h2 => eqs_at h R (by show A.units + 1 + k < cLine; omega) r r2 j _ _ (by simp [h1]) (by simp [h2])
  rwa [all_true] at this
theorem RnV.listF {a b : Nat} {xs ys : List MV} (ha : ListAt σ a xs) (hb : ListAt σ b ys) (h : xs.length ≠ ys.length) : RnV c σ 1 (.ref a) (.ref b) true := fun f ρ fr z s A v u R iv iu hu => by
  cases iv; cases iu
  obtain ⟨its, hi, r⟩ := R.isList ha
  obtain ⟨its2, hi2, r2⟩ := R.isList hb
  have hs : (its.size != its2.size) = true := by have := r.length; have := r2.length; simp at *; omega
  exact .lists_lengths hi hi2 hs (by omega)
variable {X : EX} {Q : MV → Hp → Prop}
theorem WC.eq {x y : MV} {b : Bool} (hn : 1 ≤ i.n) (hk : k ≤ 39) (h : RcV c σ k x y b) (hq : Q (.bool b) σ) : WC c i .Eq x y ρ Q X σ := fun v u iv iu f fr z s _ _ g R =>
  cmp_ofEq (h f ρ fr z s f.A v u R iv iu (by have := g.units; omega) c.prog c.w _ _ ⟨.bool b, σ, rfl, R, hq⟩)
theorem WC.ne {x y : MV} {b : Bool} (hn : 1 ≤ i.n) (hk : k ≤ 39) (h : RnV c σ k x y b) (hq : Q (.bool b) σ) : WC c i .NotEq x y ρ Q X σ := fun v u iv iu f fr z s _ _ g R =>
  cmp_ofNotEq (h f ρ fr z s f.A v u R iv iu (by have := g.units; omega) c.prog c.w _ _ ⟨.bool b, σ, rfl, R, hq⟩)
end
theorem FnAt.unique {c : Cx} {a : Nat} {ps ps' : List Str} {b b' : List Stmt} {s s' : Scope} (F : FnAt c a ps b s) (F' : FnAt c a ps' b' s') : b = b' ∧ s = s' := by
  obtain ⟨oc, od, osl, name, qual, params, dV, kV, doc, pm, an, cdv, ct, e, _⟩ := F.at_
  obtain ⟨oc', od', osl', name', qual', params', dV', kV', doc', pm', an', cdv', ct', e', _⟩ := F'.at_
  have q := Option.some.inj (e.symm.trans e')
  have q2 : Data.func (fnX name qual params b s [] dV kV doc pm an cdv ct) = .func (fnX name' qual' params' b' s' [] dV' kV' doc' pm' an' cdv' ct') := congrArg Obj.data q
  have q3 := Data.func.inj q2
  exact ⟨FuncBody.stmts.inj (congrArg (·.body) q3), congrArg (·.scope) q3⟩
end Mine
open PySem PySem.W PyProof.Rows
namespace Mine
theorem boolsOf : ∀ {bs : List Bool} {vs : List Value}, All2 MV.Is (bs.map .bool) vs → vs = bs.map Value.bool
  | [], _, .nil => rfl
  | b :: bs, _, .cons e h => by rw [boolsOf h]; cases e; rfl
section
variable {c : Cx} {i : Ix} {ρ : Lo} {σ : Hp} {X : EX} {Q : MV → Hp → Prop}
def isBv (b : Bool) : Value → Bool
  | .bool x => x == b
  | _ => false
def isSv (k : Str) : Value → Bool
  | .str x _ => x == k
  | _ => false
theorem any_isBv (b : Bool) (bs : List Bool) : (bs.map Value.bool).any (isBv b) = bs.any (· == b) := by rw [List.any_map]; rfl
theorem WC.inB {a : Nat} {bs : List Bool} {b : Bool} (hl : ListAt σ a (bs.map .bool)) (h : Q (.bool (bs.any (· == b))) σ) : WC c i .In (.bool b) (.ref a) ρ Q X σ := fun v u iv iu f fr z s _ _ g R => by
  cases iv; cases iu
  obtain ⟨its, hi, r⟩ := R.isList hl
  have e := boolsOf r
  refine SeqAt.in_listAt (isBv b) hi (fun y hy => ?_) ⟨.bool _, σ, rfl, R, ?_⟩
  · have : y ∈ its.toList := by simpa using hy
    rw [e] at this
    obtain ⟨x, _, rfl⟩ := List.mem_map.mp this
    exact .bool_bool _ _
  · rw [← Array.any_toList, e, any_isBv]; exact h
theorem WM.listIndex {a t : Nat} {xs : List MV} {Q : MV × List MV → Hp → Prop} (hl : σ a = some (t, .list xs)) (h : Q (.con (.builtin "list.index"), [.ref a]) σ) : WM c i (.ref a) "index" ρ Q X σ := fun v pl iv f fr z s _ _ g R => by
  cases iv
  obtain ⟨its, n, ho, r⟩ := R.objs _ _ _ hl
  exact getMethod_builtin (T := "list") ⟨_, ho, rfl⟩ PySem.F.plainAttrs_list PySem.F.slot_list_index PySem.F.type_list_index (fun b e => by cases e; exact ⟨_, ho, rfl⟩) ⟨(.con (.builtin "list.index"), [.ref a]), σ, ⟨rfl, .cons rfl .nil⟩, R, h⟩
theorem strs_at {ys : List Str} {vs : List Value} (r : All2 MV.Is (ys.map .str) vs) {m : Nat} {v : Value} (h : vs[m]? = some v) : ∃ y t, ys[m]? = some y ∧ v = .str y t := by
  induction ys generalizing vs m with
  | nil => cases r; simp at h
  | cons y ys ih =>
    cases r with | cons a b =>
    cases m with
    | zero => simp at h; subst h; obtain ⟨t, e⟩ := a; exact ⟨y, t, by simp, e⟩
    | succ m => simp at h; simpa using ih b h
theorem WCall.indexS {a j : Nat} {ys : List Str} {k : Str} (hl : ListAt σ a (ys.map .str)) (hj : ys[j]? = some k) (hno : ∀ m, m < j → ys[m]? ≠ some k) (hz : ys.length ≤ 1000000) (h : Q (.int j) σ) : WCall c i (.con (.builtin "list.index")) [.ref a, .str k] ρ Q X σ := fun v us iv iu f fr z s _ _ g R => by
  cases iv
  obtain ⟨u1, u2, rfl, i1, i2⟩ := iu.two
  cases i1
  obtain ⟨tk, rfl⟩ := i2
  obtain ⟨its, ⟨⟨oc, od, odt, osl⟩, ho, hc, n, hd⟩, r⟩ := R.isList hl
  dsimp only at hc hd
  subst hc hd
  have hlen : its.size = ys.length := by have := r.length; simp at this; omega
  have hjl : j < its.size := by rw [hlen]; exact (List.getElem?_eq_some_iff.mp hj).1
  have at_ : ∀ m (hm : m < its.size), ∃ y t, ys[m]? = some y ∧ its[m] = .str y t := fun m hm => strs_at r (by simp [hm])
  refine call_meets PySem.F.slot_list_index ⟨_, ho, rfl⟩ PySem.F.entry_list_index (PySem.F.args_list_index_2 _ _) (SeqAt.list_indexAt a its n od osl (.str k tk) (isSv k) j hjl (by omega) ?_ ?_)
    ⟨ho, fun y hy => ?_, ⟨.int j, σ, ⟨_, rfl⟩, R.toks _, h⟩⟩
  · obtain ⟨y, t, e1, e2⟩ := at_ j hjl
    rw [e2]
    rw [hj] at e1
    cases e1
    exact beq_self_eq_true k
  · intro m hm hlt
    obtain ⟨y, t, e1, e2⟩ := at_ m hm
    rw [e2]
    have := hno m hlt
    rw [e1] at this
    exact beq_eq_false_iff_ne.mpr fun q => this (by rw [q])
  · obtain ⟨m, hm, rfl⟩ := Array.mem_iff_getElem.mp hy
    obtain ⟨y, t, e1, e2⟩ := at_ m hm
    rw [e2]
    exact .str_str _ _ _ _
theorem WM.dictPopI {a t es ep} {Q : MV × List MV → Hp → Prop} (hl : σ a = some (t, .idict es ep)) (h : Q (.con (.builtin "dict.pop"), [.ref a]) σ) : WM c i (.ref a) "pop" ρ Q X σ := fun v pl iv f fr z s _ _ g R => by
  cases iv
  obtain ⟨l, kvs, hk, _, r⟩ := Rel.idict R hl
  exact getMethod_builtin (T := "dict") hk.typeIs PySem.F.plainAttrs_dict PySem.F.slot_dict_pop PySem.F.type_dict_pop (fun b e => by cases e; obtain ⟨o, es', ep, ho, hx, _⟩ := hk; exact ⟨o, ho, hx.2.1⟩) ⟨(.con (.builtin "dict.pop"), [.ref a]), σ, ⟨rfl, .cons rfl .nil⟩, R, h⟩
theorem WCall.dictPopI {a t ep : Nat} {es : List (Int × MV)} {k : Int} {v : MV} (hd : σ a = some (t, .idict es ep)) (hz : es.length ≤ 1000000) (hv : getK es k = some v) (h : ∀ ep', Q v (σ.put a t (.idict (delK es k) ep'))) : WCall c i (.con (.builtin "dict.pop")) [.ref a, .int k] ρ Q X σ := fun v' us iv iu f fr z s _ _ g R => by
  cases iv
  obtain ⟨u1, u2, rfl, i1, i2⟩ := iu.two
  cases i1
  obtain ⟨tk, rfl⟩ := i2
  obtain ⟨l, kvs, hk, _, r⟩ := Rel.idict R hd
  obtain ⟨u, hu, is⟩ := getK_some r hv
  refine call_meetsIn PySem.F.slot_dict_pop hk.typeIs PySem.F.entry_dict_pop (PySem.F.args_dict_pop_2 _ _) (meets_dict_pop_there (PySem.intKind c.prog c.w) a (PySem.intKind_is _ _ k tk) [] (.inl rfl) rfl)
    ⟨kvs, u, hk, size_ok (by rw [← r.length]; exact hz), hu, fun h' hk' hs => ?_⟩
  obtain ⟨o, ho, hd'⟩ := Heap.dictOf_iff.mp hk'
  obtain ⟨ep', o', es', h1, h2, h3, h4⟩ := hk'.dictAt
  obtain rfl : o = o' := Option.some.inj (ho.symm.trans h1)
  exact ⟨v, _, is, R.upd (t' := t) (mo' := .idict (delK es k) ep') hd rfl rfl (.of_same hs (R.neL hd)) ⟨l, o, ho, ⟨_, hd', delK_all r k⟩, es', h3⟩, h ep'⟩
theorem WC.inI_t {a t es ep k v} (hd : σ a = some (t, .idict es ep)) (hg : getK es k = some v) (h : Q (.bool true) σ) : WC c i .In (.int k) (.ref a) ρ Q X σ := WC.inI hd (by rw [hg]; exact h)
theorem WC.inI_f {a t es ep k} (hd : σ a = some (t, .idict es ep)) (hg : getK es k = Option.none) (h : Q (.bool false) σ) : WC c i .In (.int k) (.ref a) ρ Q X σ := WC.inI hd (by rw [hg]; exact h)
end
theorem itR2 {σ : Hp} {a t : Nat} {lo n : Int} (e : σ a = some (t, .range lo n)) (h0 : 0 ≤ lo) (h1 : lo ≤ 1000000) (h2 : 0 ≤ n) (h3 : n ≤ 1000000) : Iterable σ (.ref a) (upTo lo n) (fun _ => True) := .range e (by omega) (by omega) (by omega) (by omega)
theorem WComp.inv {c : Cx} {i : Ix} {x : Str} {elt : Expr} {still : Hp → Prop} {Q : List MV → Hp → Prop} {ρ : Lo} (P : Nat → List MV → Hp → Prop) : ∀ (items : List MV) (j : Nat) {acc : List MV} {σ : Hp}, P j acc σ →
    (∀ k v acc σ, items[k]? = some v → P (j + k) acc σ → still σ ∧ WE c i elt (ρ.put x v) (fun r σ' => P (j + k + 1) (acc ++ [r]) σ') noX σ) → (∀ acc σ, P (j + items.length) acc σ → still σ ∧ Q acc σ) → WComp c i x elt [] still Q ρ items acc σ
  | [], j, acc, σ, h0, _, he => he acc σ h0
  | v :: vs, j, acc, σ, h0, hs, he => by
    obtain ⟨h1, h2⟩ := hs 0 v acc σ rfl h0
    refine ⟨h1, ?_⟩
    refine (if_tt (A := WE c i elt (ρ.put x v) (fun u σ₂ => WComp c i x elt [] still Q ρ vs (acc ++ [u]) σ₂) noX σ) ?_ : ite _ _ (WComp c i x elt [] still Q ρ vs acc σ))
    refine W.mono h2 fun r σ' h3 => WComp.inv P vs (j + 1) h3 (fun k w acc' σ'' hk hp => ?_) fun acc' σ'' hp => he acc' σ'' ?_
    · have e : j + 1 + k = j + (k + 1) := by omega
      rw [e] at hp ⊢
      exact hs (k + 1) w acc' σ'' (by simpa using hk) hp
    · have e : j + (v :: vs).length = j + 1 + vs.length := by rw [List.length_cons]; omega
      rw [e]; exact hp
end Mine
open PySem PySem.W PyProof.Rows
namespace Mine
theorem all2_of {α β : Type} {R : α → β → Prop} : ∀ {xs : List α} {ys : List β}, xs.length = ys.length → (∀ (i : Nat) x y, xs[i]? = some x → ys[i]? = some y → R x y) → All2 R xs ys
  | [], [], _, _ => .nil
  | x :: xs, y :: ys, hl, h => .cons (h 0 x y rfl rfl) (all2_of (Nat.succ.inj hl) fun i a b ha hb => h (i + 1) a b (by simpa using ha) (by simpa using hb))
section
variable {c : Cx} {i : Ix} {ρ : Lo} {σ : Hp} {X : EX} {Q : MV → Hp → Prop}
theorem any_isS {ys : List Str} {vs : List Value} (k : Str) (r : All2 MV.Is (ys.map .str) vs) : vs.any (isSv k) = ys.any (· == k) := by
  induction ys generalizing vs with
  | nil => cases r; rfl
  | cons y ys ih => cases r with | cons a b => obtain ⟨t, rfl⟩ := a; rw [List.any_cons, List.any_cons, ih b]; rfl
theorem WC.inL {a : Nat} {ys : List Str} {k : Str} (hl : ListAt σ a (ys.map .str)) (h : Q (.bool (ys.any (· == k))) σ) : WC c i .In (.str k) (.ref a) ρ Q X σ := fun v u iv iu f fr z s _ _ g R => by
  obtain ⟨t, rfl⟩ := iv
  cases iu
  obtain ⟨its, hi, r⟩ := R.isList hl
  refine SeqAt.in_listAt (isSv k) hi (fun y hy => ?_) ⟨.bool _, σ, rfl, R, ?_⟩
  · obtain ⟨m, hm, rfl⟩ := Array.mem_iff_getElem.mp hy
    obtain ⟨y, t', e1, e2⟩ := strs_at r (m := m) (v := its[m]) (by simp [hm])
    rw [e2]
    exact .str_str _ _ _ _
  · rw [← Array.any_toList, any_isS k r]; exact h
theorem WSub.tuple {value slice a t k xs v} (hs : NoSlice slice) (hl : σ a = some (t, .tuple xs)) (h0 : 0 ≤ k) (h1 : k < 2 ^ 63) (hx : xs[k.toNat]? = some v) (h : Q v σ) : WSub c i value slice (.ref a) (.int k) ρ Q X σ := fun v' u iv iu f fr z s _ _ g R => by
  cases iv; obtain ⟨tk, rfl⟩ := iu
  obtain ⟨its, hi, r⟩ := Rel.isTuple R hl
  obtain ⟨x, hx', is⟩ := r.get hx
  have hlt : k.toNat < its.size := by have := (List.getElem?_eq_some_iff.mp hx').1; simpa using this
  have hT : s.TypeIs (.ref a) "tuple" := by obtain ⟨o, ho, hc, _⟩ := hi; exact ⟨o, ho, hc⟩
  refine tail_any hT PySem.F.slot_tuple_getitem.lookup (getItem_tuple (j := k.toNat) hi (by omega) h1 ?_ (by simpa using hx') ⟨v, σ, is, R, h⟩) (hs _ _)
  unfold seqIndex?
  simp
  omega
end
section
variable {c : Cx} {n : Nat} {hn : Bool} {sc scope : Scope} {x : Str} {ρ : Lo} {σ : Hp}
theorem WE.compA {px : Pos} {elt iter : Expr} {ifs : List Expr} {pos : Pos} {X : EX} {Q : MV → Hp → Prop} (t : Nat) (hh : hn = true) (hs : NotSet iter) (hok : compOk scope sc x = true) (h0 : ρ (".0" : Str) = Option.none)
    (h : WE c ⟨n, hn, sc⟩ iter ρ (fun v σ₁ => ∃ xs still, Iterable σ₁ v xs still ∧ xs.length ≤ 1000000 ∧ WComp c ⟨n, hn, relab scope sc⟩ x elt ifs still (fun vs σ₂ => ∀ D, σ₂ D = Option.none → Q (.ref D) (σ₂.put D t (.list vs))) ρ xs [] σ₁) X σ) :
    WE c ⟨n, hn, sc⟩ (.ListComp elt [⟨.Name x px, iter, ifs, 0⟩] scope pos) ρ Q X σ := WE.comp t hh hs hok h0 h
theorem WS.assignCompA {y : Str} {py px : Pos} {elt iter : Expr} {ifs : List Expr} {pos spos : Pos} {X : SX} {Q : MF → Lo → Hp → Prop} (t : Nat) (hh : hn = true) (hs : NotSet iter) (hok : compOk scope sc x = true) (h0 : ρ (".0" : Str) = Option.none)
    (hy : sc.names.lookup y = some .local) (hline : (py.line == pos.line && !(scope.names.any fun (n, k) => n == y && (k == .local || k == .cell))) = true)
    (h : WE c ⟨n, hn, sc⟩ iter ρ (fun v σ₁ => ∃ xs still, Iterable σ₁ v xs still ∧ xs.length ≤ 1000000 ∧ WComp c ⟨n, hn, relab scope sc⟩ x elt ifs still (fun vs σ₂ => ∀ D, σ₂ D = Option.none → Q .next (ρ.put y (.ref D)) (σ₂.put D t (.list vs))) ρ xs [] σ₁) (X.ex ρ) σ) :
    WS c ⟨n, hn, sc⟩ (.Assign [.Name y py] (.ListComp elt [⟨.Name x px, iter, ifs, 0⟩] scope pos) spos) ρ Q X σ := WS.assignComp t hh hs hok h0 hy hline h
end
end Mine
open PySem PySem.W PyProof.Rows
namespace Mine
def WTg (c : Cx) (i : Ix) (target : Expr) (v : MV) (ρ : Lo) (Q : Lo → Hp → Prop) (X : SX) (σ : Hp) : Prop :=
  ∀ u, v.Is u → ∀ f fr z s, f.env.scope = i.sc → (i.hn = true → f.A.handled = none) → Good c i.n f fr → c.Rel f ρ σ fr z s →
    wpAny c.M f.A (assign target f.env u) (fun _ s' => ∃ ρ' σ', c.Rel f ρ' σ' fr z s' ∧ Q ρ' σ') (XPost c f fr z X) s
def WTgs (c : Cx) (i : Ix) : List Expr → List MV → Lo → (Lo → Hp → Prop) → SX → Hp → Prop
  | [], [], ρ, Q, _, σ => Q ρ σ
  | e :: es, v :: vs, ρ, Q, X, σ => WTg c i e v ρ (fun ρ₁ σ₁ => WTgs c i es vs ρ₁ Q X σ₁) X σ
  | _, _, _, _, _, _ => False
theorem WTg.name {c : Cx} {i : Ix} {x : Str} {px : Pos} {v : MV} {ρ : Lo} {Q : Lo → Hp → Prop} {X : SX} {σ : Hp} (h : WSt c i x v ρ Q X σ) : WTg c i (.Name x px) v ρ Q X σ := fun u is f fr z s a b g R => wpAny_assign_Name (h u is f fr z s a b g R)
theorem assignEach_len : ∀ (es : List Expr) (env : Env), (assignEach es env).length = es.length
  | [], _ => rfl
  | e :: es, env => by cases e <;> simp [assignEach, assignEach_len es env]
theorem assignEach_cons {e : Expr} {es : List Expr} {env : Env} (h : noStar e = true) : assignEach (e :: es) env = (false, assign e env) :: assignEach es env := by
  cases e <;> first | rfl | cases h
theorem assignEach_star : ∀ {es : List Expr} {env : Env}, es.all noStar = true → (assignEach es env).findIdx? (·.1) = none
  | [], _, _ => rfl
  | e :: es, env, h => by
    simp only [List.all_cons, Bool.and_eq_true] at h
    rw [assignEach_cons h.1, List.findIdx?_cons, assignEach_star h.2]
    rfl
theorem tgs_run {c : Cx} {i : Ix} {Q : Lo → Hp → Prop} {X : SX} {f : Fm} {fr : Nat → Option Obj} {z : Shared} (a : f.env.scope = i.sc) (b : i.hn = true → f.A.handled = none) (g : Good c i.n f fr) : ∀ (es : List Expr) (vs : List MV) {us : List Value} {ρ : Lo} {σ : Hp} {s : Shared}, es.all noStar = true → All2 MV.Is vs us → WTgs c i es vs ρ Q X σ → c.Rel f ρ σ fr z s →
    wpAny c.M f.A (assignInOrder ((assignEach es f.env).map (·.2)) us) (fun _ s' => ∃ ρ' σ', c.Rel f ρ' σ' fr z s' ∧ Q ρ' σ') (XPost c f fr z X) s
  | [], [], us, ρ, σ, s, _, r, h, R => by cases r; exact wpAny_pure ⟨ρ, σ, R, h⟩
  | e :: es, v :: vs, us, ρ, σ, s, hs, r, h, R => by
    simp only [List.all_cons, Bool.and_eq_true] at hs
    cases r with | cons r1 r2 =>
    rw [assignEach_cons hs.1]
    show wpAny c.M f.A (do holding _ (assign e f.env _); assignInOrder _ _) _ _ s
    refine wpAny_bind (wpAny_holding (wpAny_mono (h _ r1 f fr z s a b g R) (fun _ s₁ x => ?_) fun _ _ x => x))
    obtain ⟨ρ₁, σ₁, R₁, h₁⟩ := x
    exact tgs_run a b g es vs hs.2 r2 h₁ R₁
  | [], _ :: _, _, _, _, _, _, _, h, _ => h.elim
  | _ :: _, [], _, _, _, _, _, _, h, _ => h.elim
theorem WTg.tuple {c : Cx} {i : Ix} {elts : List Expr} {x1} {pos : Pos} {a t : Nat} {xs : List MV} {ρ : Lo} {Q : Lo → Hp → Prop} {X : SX} {σ : Hp} (hn : i.hn = true) (hs : elts.all noStar = true) (hl : elts.length = xs.length) (ha : σ a = some (t, .tuple xs)) (h : WTgs c i elts xs ρ Q X σ) :
    WTg c i (.Tuple elts x1 pos) (.ref a) ρ Q X σ := fun u is f fr z s sc b g R => by
  cases is
  obtain ⟨its, hi, r⟩ := Rel.isTuple R ha
  have e : its.size = xs.length := by rw [r.length]; simp
  refine wpAny_assign_Tuple (b hn) hi (by rw [assignEach_len, hl, e]) (assignEach_star hs) fun h' hx => ?_
  have R' := R.alien (tk := s.toks) (I := s.heap.objs.size) R.fresh_alien (fun t mo q => absurd (R.some_lt q) (Nat.lt_irrefl _)) (h' := h') fun a o ne ho => hx a o ne ho
  exact tgs_run sc b g elts xs hs r h R'
theorem WS.unpack {c : Cx} {i : Ix} {elts : List Expr} {k} {tpos : Pos} {value : Expr} {pos : Pos} {ρ : Lo} {Q : MF → Lo → Hp → Prop} {X : SX} {σ : Hp} (h1 : ∀ env, swapsWithSole [.Tuple elts k tpos] value pos.line env = pure false) (h2 : ∀ env, swappedStores [.Tuple elts k tpos] value env = pure none)
    (h : WE c i value ρ (fun v σ₁ => WTg c i (.Tuple elts k tpos) v ρ (fun ρ₂ σ₂ => Q .next ρ₂ σ₂) X σ₁) (X.ex ρ) σ) : WS c i (.Assign [.Tuple elts k tpos] value pos) ρ Q X σ := fun f fr z s a b g R =>
  Assign_Tuple (wuse (h f fr z s a b g R) (fun u s₁ v σ₁ is R₁ h₁ => wuse4 (h₁ u is f fr z s₁ a b g R₁) (fun _ s₂ ρ₂ σ₂ R₂ h₂ => ⟨.next, ρ₂, σ₂, rfl, R₂, h₂⟩) fun _ _ x => x) fun _ _ x => Ex.at x) (h1 _) (h2 _)
def WForT (c : Cx) (i : Ix) (target : Expr) (body : List Stmt) (still : Hp → Prop) (Q : MF → Lo → Hp → Prop) : List MV → Lo → Hp → Prop
  | [], ρ, σ => still σ ∧ Q .next ρ σ
  | v :: vs, ρ, σ => still σ ∧ WTg c i target v ρ (fun ρ₁ σ₁ => WSs c i body ρ₁ (fun m ρ₂ σ₂ => match m with
      | .next | .cont => WForT c i target body still Q vs ρ₂ σ₂
      | .brk => Q .next ρ₂ σ₂
      | .ret u => Q (.ret u) ρ₂ σ₂) noSX σ₁) noSX σ
theorem goes_list {M : Model} {A : Around} {E : Value → Shared → Prop} {Q : Unit → Shared → Prop} {s : Shared} {I a k : Nat} {u : Value} {target : Expr} (it : s.heap.IsListIter I a k) (h : Q () s) : wpAny M A (letOwnedTupleGo target (.ref I) u) Q E s := by
  obtain ⟨o, ho, hc, hd⟩ := it
  have key : ∀ x : Nat, wpAny M A (do
      let o ← load I
      match o.cls, o.data with
      | .type n, .fields vs =>
        if ["enumerate", "zip", "dict_itemiterator", "dict_reverseitemiterator", "odict_iterator", "itertools.zip_longest", "itertools.pairwise"].contains n && vs[0]? == some (rawInt x) then
          rule "for.unpacks-the-owned-tuple"
          updateField I 0 .none
      | _, _ => pure ()) Q E s := fun x => by
    refine wpAny_bind (wpAny_load ho ?_)
    rw [hc, hd]
    exact wpAny_pure h
  unfold letOwnedTupleGo
  split
  · cases u <;> first | exact wpAny_pure h | exact key _
  · cases u <;> first | exact wpAny_pure h | exact key _
  · exact wpAny_pure h
theorem forT_code {c : Cx} {i : Ix} (hn : i.hn = true) {target : Expr} {body : List Stmt} {I l : Nat} {items : List MV} (hne : l ≠ I) {ρ : Lo} {σ : Hp} {Q : MF → Lo → Hp → Prop} {X : Value → Shared → Prop}
    {f : Fm} {fr : Nat → Option Obj} {z s : Shared} (a : f.env.scope = i.sc) (b : i.hn = true → f.A.handled = none) (g : Good c i.n f fr) (R : c.Rel f ρ σ fr z s) (al : Alien f σ fr I) (it : s.heap.IsListIter I l 0) (h : WForT c i target body (fun σ => ListAt σ l items) Q items ρ σ) :
    codeAny c.M f.A (.forLoop target (.ref I) body [] f.env) (fun r s' => match r with
      | .ok fl => ∃ m ρ' σ', MF.Is m fl ∧ c.Rel f ρ' σ' fr z s' ∧ Q m ρ' σ'
      | .error e => X e s') s := by
  have T := Steps.list c hne items
  have nI : I ∉ f.slotted := fun h => by obtain ⟨o, e⟩ := g.slotIn I h; rw [al.fr] at e; cases e
  refine codeAny_forLoop_any (fun m s' => ∃ k ρ' σ', m + k = items.length ∧ s'.heap.IsListIter I l k ∧ c.Rel f ρ' σ' fr z s' ∧ Alien f σ' fr I ∧ WForT c i target body (fun σ => ListAt σ l items) Q (items.drop k) ρ' σ') ?_ items.length ⟨0, ρ, σ, by simp, it, R, al, by simpa using h⟩
  rintro m s' ⟨k, ρ', σ', hmk, it', R', al', h'⟩
  have hkl : ∀ t mo, σ' I ≠ some (t, mo) := fun t mo e => by
    cases q : mo.isK with
    | false => exact al'.foot (.of_some e q)
    | true =>
      cases mo <;> first | cases q | skip
      obtain ⟨h1, h2, _⟩ := R'.objs _ _ _ e
      obtain ⟨o, h3, h4⟩ := T.obj _ _ it'
      rw [h3] at h1; cases h1; exact h4 h2
  cases e : items[k]? with
  | none =>
    have el : items.drop k = [] := by
      rw [List.drop_eq_nil_iff]
      exact List.getElem?_eq_none_iff.mp e
    rw [el] at h'
    refine T.done R' (b hn) h'.1 it' e fun h₁ tk k₁ => ?_
    refine wpAny_execs_nil ?_
    exact ⟨.next, ρ', σ', rfl, R'.alien (tk := tk) al' hkl k₁, h'.2⟩
  | some v =>
    obtain ⟨hlt, rfl⟩ := List.getElem?_eq_some_iff.mp e
    rw [List.drop_eq_getElem_cons hlt] at h'
    refine T.item R' (b hn) h'.1 it' e fun u h₁ tk is it₁ k₁ => ?_
    have R₁ := R'.alien (tk := tk) al' hkl k₁
    obtain ⟨o, ho, hoc⟩ := T.obj _ _ it₁
    have R₂ := R₁.add al' ho
    refine goes_list it₁ ?_
    refine wuse4 (h'.2 u is f _ z _ a b (g.add al.fr) R₂) (fun _ s₂ ρ₂ σ₂ R₃ h₂ => ?_) fun _ _ x => noSX_elim x
    refine wuse6 (h₂ f _ z s₂ a b (g.add al.fr) R₃) (fun fl s₃ mf ρ₃ σ₃ is₃ R₄ h₃ => ?_) fun _ _ x => noSX_elim x
    obtain ⟨R₅, al₅, ho₅⟩ := Rel.drop al.fr R₄ nI
    have again : WForT c i target body (fun σ => ListAt σ l items) Q (items.drop (k + 1)) ρ₃ σ₃ → ∃ m', m' < m ∧ ∃ k ρ' σ', m' + k = items.length ∧ s₃.heap.IsListIter I l k ∧ c.Rel f ρ' σ' fr z s₃ ∧ Alien f σ' fr I ∧ WForT c i target body (fun σ => ListAt σ l items) Q (items.drop k) ρ' σ' := fun h₃ => by
      refine ⟨m - 1, by omega, k + 1, ρ₃, σ₃, by omega, T.move _ _ _ it₁ fun o' e' => ?_, R₅, al₅, h₃⟩
      rw [ho] at e'; cases e'; exact ho₅
    cases mf with
    | next => cases is₃; exact again h₃
    | cont => cases is₃; exact again h₃
    | brk => cases is₃; exact ⟨.next, ρ₃, σ₃, rfl, R₅, h₃⟩
    | ret v => obtain ⟨u', rfl, is'⟩ := is₃; exact ⟨.ret v, ρ₃, σ₃, ⟨u', rfl, is'⟩, R₅, h₃⟩
theorem WS.forT {c : Cx} {i : Ix} {target it : Expr} {body : List Stmt} {pos : Pos} {ρ : Lo} {Q : MF → Lo → Hp → Prop} {X : SX} {σ : Hp} (hn : i.hn = true) (hs : NotSet it) (h : WE c i it ρ (fun v σ₁ => ∃ l xs, v = .ref l ∧ ListAt σ₁ l xs ∧ WForT c i target body (fun σ => ListAt σ l xs) Q xs ρ σ₁) (X.ex ρ) σ) :
    WS c i (.For target it body [] pos) ρ Q X σ := fun f fr z s a b g R => by
  refine wpAny_For (wpAny_mono (h f fr z s a b g R) (fun u s₁ ⟨v, σ₁, is, R₁, l, xs, ev, hl, h₁⟩ => ?_) fun _ _ x => Ex.at x) (hs _)
  subst ev
  cases is
  obtain ⟨its, hi, r⟩ := R₁.isList hl
  have hlt : l < s₁.heap.objs.size := by obtain ⟨o, ho, _⟩ := hi; exact Heap.lt_size ho
  refine wpAny_pyIter_list hi ?_
  have R₂ := R₁.grown (tk := s₁.toks) (grows s₁.heap { cls := .type "list_iterator", data := .fields #[.ref l, .int 0 0] })
  exact codeAny_mono (forT_code hn (Nat.ne_of_lt hlt) (X := fun _ _ => False) a b g R₂ (R₁.alienNew (Nat.le_refl _)) ⟨_, Heap.get?_push_size _ rfl, rfl, rfl⟩ h₁) fun r s' q => by
      cases r with
      | ok fl => exact q
      | error e => exact q.elim
theorem WForT.inv {c : Cx} {i : Ix} {target : Expr} {body : List Stmt} {still : Hp → Prop} {Q : MF → Lo → Hp → Prop} (Inv : Nat → Lo → Hp → Prop) : ∀ (items : List MV) (j : Nat) {ρ : Lo} {σ : Hp}, Inv j ρ σ →
    (∀ k v ρ σ, items[k]? = some v → Inv (j + k) ρ σ → still σ ∧ WTg c i target v ρ (fun ρ₁ σ₁ => WSs c i body ρ₁ (fun m ρ₂ σ₂ => match m with
      | .next | .cont => Inv (j + k + 1) ρ₂ σ₂
      | .brk => Q .next ρ₂ σ₂
      | .ret u => Q (.ret u) ρ₂ σ₂) noSX σ₁) noSX σ) → (∀ ρ σ, Inv (j + items.length) ρ σ → still σ ∧ Q .next ρ σ) → WForT c i target body still Q items ρ σ
  | [], j, ρ, σ, h0, _, he => he ρ σ h0
  | v :: vs, j, ρ, σ, h0, hs, he => by
    obtain ⟨h1, h2⟩ := hs 0 v ρ σ rfl h0
    have next : ∀ ρ₂ σ₂, Inv (j + 1) ρ₂ σ₂ → WForT c i target body still Q vs ρ₂ σ₂ := fun ρ₂ σ₂ h3 => WForT.inv Inv vs (j + 1) h3 (fun k w ρ' σ' hk hp => by
      have e : j + 1 + k = j + (k + 1) := by omega
      rw [e] at hp ⊢
      exact hs (k + 1) w ρ' σ' (by simpa using hk) hp) fun ρ' σ' hp => he ρ' σ' (by
      have e : j + (v :: vs).length = j + 1 + vs.length := by rw [List.length_cons]; omega
      rw [e]; exact hp)
    refine ⟨h1, fun u is f fr z s a b g R => wuse4 (h2 u is f fr z s a b g R) (fun _ s₁ ρ₁ σ₁ R₁ h3 => ⟨ρ₁, σ₁, R₁, S.mono h3 fun m ρ₂ σ₂ h4 => ?_⟩) fun _ _ x => x⟩
    cases m with
    | next => exact next _ _ h4
    | cont => exact next _ _ h4
    | brk => exact h4
    | ret u => exact h4
end Mine
open PySem PySem.W PyProof.Rows
namespace Mine
section
variable {prog : Program} {w : World} {A : Around} {E : Value → Shared → Prop} {K : Frag} {x C : Nat} {o : Obj}
theorem exc_check {M : Model} {nameV : Value} {Q : Unit → Shared → Prop} {h : Heap} {g : Array GenState} {d : Drawn} {t : Nat} {os : OsState} (X : K.In h) (hx : h.get? x = some o) (hc : o.cls = .ref C) (m2 : mroIn K C (.type "BaseException") = some true) (hq : Q () ⟨h, g, d, t, os⟩) :
    wpAny M A (checkBuiltinCall "BaseException.__getattribute__" ⟨[.ref x, nameV], []⟩) Q E ⟨h, g, d, t, os⟩ := by
  have hk : builtinKind "BaseException.__getattribute__" = some .slot := by decide +kernel
  have hsplit : splitId "BaseException.__getattribute__" = some ("BaseException", "__getattribute__") := by decide +kernel
  have ha := PySem.F.args_bexc_ga (.ref x) nameV
  have L0 : Looks M h (typeOf (.ref x)) (.ref C) := hc ▸ (Looks.ld hx).andThen .now
  have LI : Looks M h (isInstance (.ref x) (.type "BaseException")) true := L0.andThen (looks_mroIn X m2)
  simp only [checkBuiltinCall, hk, hsplit]
  refine wpAny_bind (LI.at ?_)
  repeat (any_goals (first | assumption | wp_step))
theorem exc_class_get {tp : Value} {R : Result → Shared → Prop} {h : Heap} {g : Array GenState} {d : Drawn} {t : Nat} {os : OsState} (X : K.In h) (hx : h.get? x = some o) (hc : o.cls = .ref C) (m1 : mroIn K C (.type "object") = some true) (hq : R (.ok (.ret (.ref C))) ⟨h, g, d, t, os⟩) :
    codeAny (model prog w) A (.call (.builtin "getset_descriptor.__get__") ⟨[.builtin "object.__class__", .ref x, tp], []⟩) R ⟨h, g, d, t, os⟩ := by
  have L0 : Looks (model prog w) h (typeOf (.ref x)) (.ref C) := hc ▸ (Looks.ld hx).andThen .now
  have L1 := looks_mroIn (M := model prog w) X m1
  have hT5 : (⟨h, g, d, t, os⟩ : Shared).TypeIs (.builtin "object.__class__") "getset_descriptor" := PySem.F.typeOf_object_class
  have ho := KF.owner_class
  refine codeAny_call_builtin PySem.F.slot_gs_get.plain PySem.F.entry_gs_get (PySem.F.slot_gs_get.check _ _ _ _ _ _ _ _ hT5 (PySem.F.args_gs_get _ _ _) ?_)
  unfold Builtin.«getset_descriptor.__get__» Builtin.Getset_descriptor.descrGet
  rw [dga_obj]
  refine wpAny_bind (wpAny_pure ?_)
  unfold Builtin.Getset_descriptor.descrGetter Builtin.Getset_descriptor.descrCheckInstance Builtin.Getset_descriptor.descrNameAndClass isInstance
  simp only [KF.owner_class]
  repeat (any_goals (first | assumption | (with_reducible refine L0.at ?_) | (with_reducible refine L1.at ?_) | wp_step))
  refine ⟨Code.quiet_builtin _ (by decide +kernel), codeAny_builtin PySem.F.entry_object_class ?_⟩
  unfold Builtin.«object.__class__» shownTypeOf
  repeat (any_goals (first | assumption | (with_reducible refine L0.at ?_) | wp_step))
theorem exc_class_by {tk : Tok} {fill expr : Bool} {Q : Value → Shared → Prop} {h : Heap} {g : Array GenState} {d : Drawn} {t : Nat} {os : OsState} (X : K.In h) (hx : h.get? x = some o) (hc : o.cls = .ref C) (f1 : findIn K (.ref C) "__getattribute__" = some (some (.builtin "BaseException.__getattribute__"))) (f2 : findIn K (.ref C) "__getattr__" = some none)
    (f3 : findIn K (.ref C) "__class__" = some (some (.builtin "object.__class__"))) (m1 : mroIn K C (.type "object") = some true) (m2 : mroIn K C (.type "BaseException") = some true) (hq : Q (.ref C) ⟨h, g, d, t, os⟩) :
    wpAny (model prog w) A (getAttrBy (.ref x) (.str "__class__" tk) fill expr) Q E ⟨h, g, d, t, os⟩ := by
  have L0 : Looks (model prog w) h (typeOf (.ref x)) (.ref C) := hc ▸ (Looks.ld hx).andThen .now
  have L1 := looks_findIn (M := model prog w) X f1
  have L2 := looks_findIn (M := model prog w) X f2
  have L3 := looks_findIn (M := model prog w) X f3
  have hb := PySem.F.attrBase_ValueError.ga.bind (.ref x)
  have hx0 : (expr && onTheHeap (Value.builtin "BaseException.__getattribute__")) = false := by cases expr <;> rfl
  have hx2 : (Value.builtin "BaseException.__getattribute__" == Value.builtin "object.__getattribute__") = false := by decide +kernel
  have hx1 : (onTheHeap (Value.ref C) && Value.builtin "BaseException.__getattribute__" == Value.builtin "object.__getattribute__") = false := by rw [hx2]; rfl
  repeat (any_goals (first | assumption | (with_reducible refine L0.at ?_) | (with_reducible refine L1.at ?_) | (with_reducible refine L2.at ?_) | (with_reducible refine L3.at ?_) | wp_step))
  refine codeAny_call_builtin PySem.F.attrBase_ValueError.ga.plain PySem.F.entry_bexc_ga (exc_check X hx hc m2 ?_)
  have f5 := PySem.F.typeOf_object_class
  have f6 := PySem.F.slot_gs_get.lookup
  have f7 := PySem.F.slot_gs_set.lookup
  repeat (any_goals (first | assumption | (with_reducible refine L0.at ?_) | (with_reducible refine L3.at ?_) | wp_step))
  refine exc_class_get X hx hc m1 ?_
  repeat (any_goals (first | assumption | wp_step))
theorem exc_class {Q : Option Value → Shared → Prop} {s : Shared} (X : K.In s.heap) (hx : s.heap.get? x = some o) (hc : o.cls = .ref C) (f1 : findIn K (.ref C) "__getattribute__" = some (some (.builtin "BaseException.__getattribute__"))) (f2 : findIn K (.ref C) "__getattr__" = some none)
    (f3 : findIn K (.ref C) "__class__" = some (some (.builtin "object.__class__"))) (m1 : mroIn K C (.type "object") = some true) (m2 : mroIn K C (.type "BaseException") = some true) (hq : Q (some (.ref C)) { s with toks := s.toks + 1 }) :
    wpAny (model prog w) A (getAttr? (.ref x) "__class__") Q E s := by
  obtain ⟨h, g, d, t, os⟩ := s
  unfold getAttr? getAttrBy?
  repeat (any_goals (first | assumption | with_reducible apply exc_class_by X hx hc f1 f2 f3 m1 m2 | wp_step))
structure ExcOk (K : Frag) (C : Nat) : Prop where
  cls : (clsIn K C).isSome = true
  f1 : findIn K (.ref C) "__getattribute__" = some (some (.builtin "BaseException.__getattribute__"))
  f2 : findIn K (.ref C) "__getattr__" = some none
  f3 : findIn K (.ref C) "__class__" = some (some (.builtin "object.__class__"))
  m1 : mroIn K C (.type "object") = some true
  m2 : mroIn K C (.type "BaseException") = some true
theorem kitx_exc (hc : o.cls = .ref C) (ok : ExcOk K C) : KitX K (.ref x) (.ref C) (fun h => h.get? x = some o) where
  ty := fun M h _ p => hc ▸ (Looks.ld p).andThen .now
  it := fun _ _ X _ => by
    have h0 := ok.cls
    unfold clsIn at h0
    split at h0
    · rename_i c' d' cd' sl' ho
      intro A' Q' E' s' k q
      unfold isType loadHead
      exact wpAny_bind (wpAny_loadPart (k _ _ (X _ _ ho)) (wpAny_pure q))
    · cases h0
  ne := fun h tp dd its n sl X htp => by
    have h0 := ok.cls
    refine Bool.eq_false_iff.mpr fun q => ?_
    have e : C = tp := Value.ref.inj (beq_iff_eq.mp q)
    subst e
    unfold clsIn at h0
    split at h0
    · rename_i c' d' cd' sl' ho
      have z := (X _ _ ho).symm.trans htp
      cases z
    · cases h0
  ca := fun X p k => exc_class X p hc ok.f1 ok.f2 ok.f3 ok.m1 ok.m2 k
end
section
variable {c : Cx} {i : Ix} {ρ : Lo} {σ : Hp} {X : EX} {Q : MV → Hp → Prop}
theorem WCall.isExc {e t C : Nat} {m : MV} {cv : Value} {b : Bool} (hm : σ e = some (t, .exc C)) (ok : ExcOk c.K C) (hv : ∀ u, m.Is u → u = cv) (k : kitOne c.K (.ref C) cv = some b) (h : Q (.bool b) σ) : WCall c i (.con (.builtin "isinstance")) [.ref e, m] ρ Q X σ := fun v us iv iu f fr z s _ _ g R => by
  cases iv
  obtain ⟨u1, u2, rfl, i1, i2⟩ := iu.two
  cases i1
  have := hv _ i2
  subst this
  obtain ⟨o, ho, hc, _⟩ := R.objs _ _ _ hm
  exact kia_one (kitx_exc hc ok) (g.inK R) ho k (by intro q; cases q) fun tk => ⟨.bool b, σ, rfl, R.toks _, h⟩
theorem isRef {a : Nat} : ∀ u, (MV.ref a).Is u → u = .ref a := fun u h => h
theorem isCon {v : Value} : ∀ u, (MV.con v).Is u → u = v := fun u h => h
theorem WCall.isInst {a t C D : Nat} {fs : List (Str × MV)} (hm : σ a = some (t, .inst C fs)) (k : kitOne c.K (.ref C) (.ref D) = some true) (h : Q (.bool true) σ) : WCall c i (.con (.builtin "isinstance")) [.ref a, .ref D] ρ Q X σ := fun v us iv iu f fr z s _ _ g R => by
  cases iv
  obtain ⟨u1, u2, rfl, i1, i2⟩ := iu.two
  cases i1; cases i2
  obtain ⟨d, es, n, _, ho, _⟩ := R.objs _ _ _ hm
  exact exc_isi (g.inK R) ho rfl k fun tk => ⟨.bool true, σ, rfl, R.toks _, h⟩
theorem WComp.filter {x : Str} {elt t : Expr} {still : Hp → Prop} {Q : List MV → Hp → Prop} (hst : still σ) {p : MV → Bool} {f : MV → MV} : ∀ {items acc : List MV} (h : ∀ v ∈ items, ∀ K : Bool → Hp → Prop, K (p v) σ → WT c i t (ρ.put x v) K noX σ)
    (h' : ∀ v ∈ items, p v = true → ∀ K : MV → Hp → Prop, K (f v) σ → WE c i elt (ρ.put x v) K noX σ) (hq : Q (acc ++ (items.filter p).map f) σ), WComp c i x elt [t] still Q ρ items acc σ
  | [], acc, _, _, hq => ⟨hst, by simpa using hq⟩
  | v :: vs, acc, h, h', hq => by
    refine ⟨hst, ?_⟩
    refine h v (List.mem_cons_self ..) _ ?_
    have r : ∀ acc', Q (acc' ++ (vs.filter p).map f) σ → WComp c i x elt [t] still Q ρ vs acc' σ := fun acc' hq' => WComp.filter hst (fun u hu => h u (List.mem_cons_of_mem _ hu)) (fun u hu => h' u (List.mem_cons_of_mem _ hu)) hq'
    cases hp : p v with
    | true =>
      refine if_tt (h' v (List.mem_cons_self ..) hp _ (r _ ?_))
      rw [List.filter_cons, if_pos hp] at hq
      simpa using hq
    | false =>
      refine if_ff (r _ ?_)
      rw [List.filter_cons, if_neg (by rw [hp]; decide)] at hq
      exact hq
end
end Mine
open PySem PySem.W PyProof.Rows
namespace Mine
section
variable {c : Cx} {i : Ix} {ρ : Lo} {σ : Hp} {X : EX} {Q : MV → Hp → Prop}
theorem WSub.str {value slice : Expr} {x : Str} {k : Int} {ch : Nat} (hs : NoSlice slice) (h0 : 0 ≤ k) (h1 : k < 2 ^ 63) (hc : x.cps[k.toNat]? = some ch) (h : Q (.str ⟨#[ch]⟩) σ) : WSub c i value slice (.str x) (.int k) ρ Q X σ := fun v' u iv iu f fr z s _ _ g R => by
  obtain ⟨t, rfl⟩ := iv; obtain ⟨tk, rfl⟩ := iu
  have hlt : k.toNat < x.length := by
    have := (Array.getElem?_eq_some_iff.mp hc).1
    exact this
  refine tail_any (typeIs_str s x t) PySem.F.slot_str_getitem.lookup (PySem.P.getItem_str (c := ch) ?_ ?_ ⟨.str ⟨#[ch]⟩, σ, ⟨_, rfl⟩, R.toks _, h⟩) (hs _ _)
  · simp; omega
  · have e : seqIndex? k x.length = some k.toNat := by unfold seqIndex?; simp; omega
    rw [e]; exact hc
theorem WE.sliceToS {value hi : Expr} {p pos : Pos} {x : Str} (ht : ∀ t r, letTemporaryGo value (.str x t) r = pure ()) (hz : x.length ≤ 1000000) (h : WE c i value ρ (fun a σ₁ => WE c i hi ρ (fun b σ₂ => ∃ k : Int, a = .str x ∧ b = .int k ∧ Q (.str (Txt.slice x Option.none (some k))) σ₂) X σ₁) X σ) :
    WE c i (.Subscript value (.Slice Option.none (some hi) Option.none p) pos) ρ Q X σ := fun f fr z s a b g R => by
  refine Subscript_ (wuse (h f fr z s a b g R) (fun v s₁ _ σ₁ i1 R₁ h₁ => wpAny_Slice (wpAny_evalPart_none (wpAny_evalPart_some (wpAny_mono (h₁ f fr z s₁ a b g R₁) (fun u s₂ ⟨_, σ₂, i2, R₂, k, e1, e2, h₂⟩ => ?_) fun _ _ x => x)))) fun _ _ x => x)
  subst e1; subst e2
  obtain ⟨t, rfl⟩ := i1; obtain ⟨tk, rfl⟩ := i2
  obtain ⟨m, hn, hm⟩ := R₂.ns
  refine wpAny_evalPart_none ?_
  exact slice_strN_ns (hsz := size_ok hz) (s := s₂) (fr_all hn) (news_all s₂.heap f.env.locals) (fun h' t' k' F' N' => ⟨.str _, σ₂, ⟨_, rfl⟩, R₂.kept (Kept.of_news hn F' N' fun p hp _ => hp), h₂⟩) (by with_unfolding_all rfl) (ht _)
end
end Mine
open PySem PySem.W PyProof.Rows
namespace Mine
section
variable {c : Cx} {i : Ix} {ρ : Lo} {σ : Hp} {X : EX} {Q : MV → Hp → Prop}
theorem WCall.listList {a : Nat} {xs : List MV} (t : Nat) (ha : ListAt σ a xs) (hz : xs.length ≤ 1000000) (h : ∀ b, Fresh σ b → Q (.ref b) (σ.put b t (.list xs))) : WCall c i (.con (.type "list")) [.ref a] ρ Q X σ := fun v us iv iu f fr z s _ hh g R => by
  cases iv
  obtain ⟨u, rfl, i1⟩ := iu.one
  cases i1
  obtain ⟨its, hi, r⟩ := R.isList ha
  obtain ⟨o, ho, hc, n, hd⟩ := hi
  exact call_list_seq (hsz := size_ok (by have := r.length; simp at this; omega)) a (.inl rfl) ho hc hd fun h' c' hk hD => ⟨.ref s.heap.objs.size, _, rfl, R.alloc (mo := .list xs) t (.of_grown hk) (Nat.le_refl _) (fun q => by cases q) ⟨its, c', hD, r⟩, h _ R.fresh⟩
end
end Mine
open PySem PySem.W PyProof.Rows
namespace Mine
name_quick tw1615798384268853784 for S.findZ by S.findZ_eq
name_quick tw8075568018651887793 for S.findZ by S.findZ_eq
name_quick tw433209904769449389 for S.findZ by S.findZ_eq
name_quick tw8113487096746623810 for S.findZ by S.findZ_eq
name_quick tw6476718242876238587 for S.findZ by S.findZ_eq
name_quick tw14979626087600564940 for S.findZ by S.findZ_eq
name_quick tw14060403864292698165 for S.findZ by S.findZ_eq
name_quick tw18011524253729791491 for S.findZ by S.findZ_eq
name_quick tw7695134704397734373 for S.findZ by S.findZ_eq
name_quick tw10695241705296601692 for S.findZ by S.findZ_eq
name_quick tw12813236842856870187 for S.findZ by S.findZ_eq
name_quick tw15450981722951097364 for S.findZ by S.findZ_eq
name_quick tw5135500740108067664 for S.findZ by S.findZ_eq
name_quick tw16966814322356759819 for S.findZ by S.findZ_eq
name_quick tw12700139031502230420 for S.findZ by S.findZ_eq
name_quick tw9458956999447867950 for S.findZ by S.findZ_eq
name_quick tw3916196269025109296 for S.findZ by S.findZ_eq
name_quick tw1523951592034530338 for S.findZ by S.findZ_eq
name_quick tw17000155066101142889 for S.findZ by S.findZ_eq
name_quick tw11853533878840232495 for S.findZ by S.findZ_eq
name_quick tw43969757491396457 for S.findZ by S.findZ_eq
name_quick tw4011157648589011858 for S.findZ by S.findZ_eq
name_quick tw16593013826814733010 for S.findZ by S.findZ_eq
name_quick tw14821650378409806113 for S.findZ by S.findZ_eq
name_quick tw16241802466949684156 for S.findZ by S.findZ_eq
name_quick tw17164873540382356111 for S.findZ by S.findZ_eq
name_quick tw9315938663221665524 for S.findZ by S.findZ_eq
name_quick tw13036272033356848781 for S.findZ by S.findZ_eq
name_quick tw18211773271919218964 for S.findZ by S.findZ_eq
name_quick tw9501820088010722379 for S.findZ by S.findZ_eq
name_quick tw3131671291697673992 for S.findZ by S.findZ_eq
name_quick tw14311459727803291754 for S.findZ by S.findZ_eq
name_quick tw17552769576498331613 for S.findZ by S.findZ_eq
name_quick tw2334299552400917057 for S.findZ by S.findZ_eq
name_quick tw13981391230805400906 for S.findZ by S.findZ_eq
name_quick tw11186114360453789277 for S.findZ by S.findZ_eq
name_quick tw4558998842232669794 for S.findZ by S.findZ_eq
name_quick tw8400853705098224536 for S.findZ by S.findZ_eq
name_quick tw10346894026039390216 for S.findZ by S.findZ_eq
name_quick tw5357591511691535388 for S.findZ by S.findZ_eq
name_quick tw4552823106982906706 for S.findZ by S.findZ_eq
name_quick tw16979880578912567463 for S.findZ by S.findZ_eq
name_quick tw2478078296215019888 for S.findZ by S.findZ_eq
name_quick tw6792406925840432001 for S.findZ by S.findZ_eq
name_quick tw16752143609539240740 for S.findZ by S.findZ_eq
name_quick tw10887116778572429059 for S.findZ by S.findZ_eq
name_quick tw11277716924127702174 for S.findZ by S.findZ_eq
name_quick tw470574548607681690 for S.findZ by S.findZ_eq
name_quick tw912392155897948271 for S.findZ by S.findZ_eq
name_quick tw704327219915372674 for S.findZ by S.findZ_eq
name_quick tw16548257151911338427 for S.findZ by S.findZ_eq
name_quick tw2660918139993853925 for S.findZ by S.findZ_eq
name_quick tw1092655722715705105 for S.findZ by S.findZ_eq
name_quick tw4071324889030633612 for S.findZ by S.findZ_eq
name_quick tw13559156169165276386 for S.findZ by S.findZ_eq
name_quick tw4407734736301137906 for S.findZ by S.findZ_eq
name_quick tw3764465048917985505 for S.findZ by S.findZ_eq
name_quick tw8860024209350480642 for S.findZ by S.findZ_eq
name_quick tw17975652961387846372 for S.findZ by S.findZ_eq
name_quick tw10833955939284561965 for S.findZ by S.findZ_eq
name_quick tw17476080006546285661 for S.findZ by S.findZ_eq
name_quick tw3094477031063562474 for S.findZ by S.findZ_eq
name_quick tw13512673800721320934 for S.findZ by S.findZ_eq
name_quick tw8206430501311747189 for S.findZ by S.findZ_eq
name_quick tw15475462885187679331 for S.findZ by S.findZ_eq
name_quick tw16145008321745377990 for S.findZ by S.findZ_eq
name_quick tw505943868828395459 for S.findZ by S.findZ_eq
name_quick tw2905824091091238844 for S.findZ by S.findZ_eq
name_quick tw10424941004445345732 for S.findZ by S.findZ_eq
name_quick tw5131478536388391638 for S.findZ by S.findZ_eq
name_quick tw9951705424602377420 for S.findZ by S.findZ_eq
name_quick tw3856783459128436802 for S.findZ by S.findZ_eq
name_quick tw14326252917377295143 for S.findZ by S.findZ_eq
name_quick tw6654550962395885724 for S.findZ by S.findZ_eq
name_quick tw15278061642289888581 for S.findZ by S.findZ_eq
name_quick tw13317431791736044220 for S.findZ by S.findZ_eq
name_quick tw136631920214876835 for S.findZ by S.findZ_eq
name_quick tw12635297910168745909 for S.findZ by S.findZ_eq
name_quick tw16504061995083234566 for S.findZ by S.findZ_eq
name_quick tw2862820112641550484 for S.findZ by S.findZ_eq
name_quick tw900395245841561262 for S.findZ by S.findZ_eq
name_quick tw1218959903707654005 for S.findZ by S.findZ_eq
name_quick tw4224760802259116069 for S.findZ by S.findZ_eq
name_quick tw347637069881736656 for S.findZ by S.findZ_eq
name_quick tw5032809538720368765 for S.findZ by S.findZ_eq
name_quick tw15919542637913265678 for S.findZ by S.findZ_eq
name_quick tw11543547407058413889 for S.findZ by S.findZ_eq
name_quick tw11270796479367742343 for S.findZ by S.findZ_eq
name_quick tw460243522976405022 for S.findZ by S.findZ_eq
name_quick tw6711915476519705758 for S.findZ by S.findZ_eq
name_quick tw2283851925072248500 for S.findZ by S.findZ_eq
name_quick tw15480198773659482676 for S.findZ by S.findZ_eq
name_quick tw15168306246750427876 for S.findZ by S.findZ_eq
name_quick tw7392212959928792091 for S.findZ by S.findZ_eq
name_quick tw3778451253796500701 for S.findZ by S.findZ_eq
name_quick tw6589095468515690095 for S.findZ by S.findZ_eq
name_quick tw8424611434330503625 for S.findZ by S.findZ_eq
name_quick tw1414301608579184545 for S.findZ by S.findZ_eq
name_quick tw2422670821966735624 for S.findZ by S.findZ_eq
name_quick tw15742981410569661332 for S.findZ by S.findZ_eq
name_quick tw4302124980754421698 for S.findZ by S.findZ_eq
name_quick tw8753696776887207221 for S.findZ by S.findZ_eq
name_quick tw4797165386629745026 for S.findZ by S.findZ_eq
name_quick tw17069979004554194336 for S.findZ by S.findZ_eq
name_quick tw10948738476641704880 for S.findZ by S.findZ_eq
name_quick tw13016732220969518872 for S.findZ by S.findZ_eq
name_quick tw4980102563643897964 for S.findZ by S.findZ_eq
name_quick tw9564595351457756722 for S.findZ by S.findZ_eq
name_quick tw16916688483869632129 for S.findZ by S.findZ_eq
name_quick tw392140993173905013 for S.findZ by S.findZ_eq
name_quick tw17111948838632640456 for S.findZ by S.findZ_eq
name_quick tw6004533443673955352 for S.findZ by S.findZ_eq
name_quick tw16741492637210864865 for S.findZ by S.findZ_eq
name_quick tw15663404670287596823 for S.findZ by S.findZ_eq
name_quick tw8376441433122354887 for S.findZ by S.findZ_eq
name_quick tw5529568453561195837 for S.findZ by S.findZ_eq
name_quick tw9529234661008812162 for S.findZ by S.findZ_eq
name_quick tw117213463901210413 for S.findZ by S.findZ_eq
name_quick tw14553827428707814869 for S.findZ by S.findZ_eq
name_quick tw10938465397075749097 for S.findZ by S.findZ_eq
name_quick tw1402947280878808549 for S.findZ by S.findZ_eq
name_quick tw9787463984185863102 for S.findZ by S.findZ_eq
name_quick tw3362959441861295915 for S.findZ by S.findZ_eq
name_quick tw15560500314895047343 for S.findZ by S.findZ_eq
name_quick tw4658958612460137192 for S.findZ by S.findZ_eq
name_quick tw3577408171920636059 for S.findZ by S.findZ_eq
name_quick tw3698559305507148144 for S.findZ by S.findZ_eq
name_quick tw2627984346626558326 for S.findZ by S.findZ_eq
name_quick tw4075660801711882420 for S.findZ by S.findZ_eq
name_quick tw4527066259768149269 for S.findZ by S.findZ_eq
name_quick tw11939915149646268982 for S.findZ by S.findZ_eq
name_quick tw16643379632663270332 for S.findZ by S.findZ_eq
name_quick tw5349121933718820234 for S.findZ by S.findZ_eq
name_quick tw16349804527192203551 for S.findZ by S.findZ_eq
name_quick tw14530364306720264245 for S.findZ by S.findZ_eq
name_quick tw3619232141914619222 for S.findZ by S.findZ_eq
name_quick tw18101931140130867144 for S.findZ by S.findZ_eq
name_quick tw18350330562280901221 for S.findZ by S.findZ_eq
name_quick tw2664551874359636763 for S.findZ by S.findZ_eq
name_quick tw11161088081135249708 for S.findZ by S.findZ_eq
name_quick tw11636919720809706868 for S.findZ by S.findZ_eq
name_quick tw3282434896037501709 for S.findZ by S.findZ_eq
name_quick tw6019396324639902685 for S.findZ by S.findZ_eq
name_quick tw1617757218408452269 for S.findZ by S.findZ_eq
name_quick tw17730428716208468724 for S.findZ by S.findZ_eq
name_quick tw7745614565497352828 for S.findZ by S.findZ_eq
name_quick tw7276740287692124622 for S.findZ by S.findZ_eq
name_quick tw1962928258387122110 for S.findZ by S.findZ_eq
name_quick tw8579058602437062094 for S.findZ by S.findZ_eq
name_quick tw11333186260410459676 for S.findZ by S.findZ_eq
name_quick tw4549333791460862111 for S.findZ by S.findZ_eq
name_quick tw18416463498863911781 for S.findZ by S.findZ_eq
name_quick tw15323854079317868165 for S.findZ by S.findZ_eq
name_quick tw1291980286583624508 for S.findZ by S.findZ_eq
name_quick tw282004115355043989 for S.findZ by S.findZ_eq
name_quick tw5189142188285759775 for S.findZ by S.findZ_eq
name_quick tw16350708796919097252 for S.findZ by S.findZ_eq
name_quick tw8537084889766193716 for S.findZ by S.findZ_eq
name_quick tw12172078356533094185 for S.findZ by S.findZ_eq
name_quick tw14126943448341045398 for S.findZ by S.findZ_eq
name_quick tw5111356299099525756 for S.findZ by S.findZ_eq
set_option maxRecDepth 100000 in
set_option maxHeartbeats 8000000 in
open_top hd for PySem.Challenge.rw_uf030004_04
end Mine
open PySem PySem.W PyProof.Rows
set_option maxRecDepth 100000
set_option maxHeartbeats 4000000
namespace Mine
abbrev a_is_whole : Nat := 70
abbrev a_step : Nat := 77
abbrev a_law_cell_at : Nat := 217
abbrev a_law_told : Nat := 222
abbrev a_law_least : Nat := 229
abbrev a_law_turn : Nat := 236
abbrev a_law : Nat := 241
abbrev a_ShareError : Nat := 24
abbrev a_BadShare : Nat := 37
abbrev a_Twice : Nat := 49
abbrev a_NoName : Nat := 61
abbrev a_Sharer : Nat := 94
abbrev a_Wheel : Nat := 206
abbrev m_Sharer_init : Nat := 91
abbrev m_Wheel_init : Nat := 112
abbrev m_Wheel_need : Nat := 119
abbrev m_Wheel_enter : Nat := 126
abbrev m_Wheel_leave : Nat := 133
abbrev m_Wheel_reshare : Nat := 140
abbrev m_Wheel_wake : Nat := 147
abbrev m_Wheel_rest : Nat := 154
abbrev m_Wheel_whose : Nat := 161
abbrev m_Wheel_turn : Nat := 168
abbrev m_Wheel_names : Nat := 175
abbrev m_Wheel_clock_of : Nat := 182
abbrev m_Wheel_share_of : Nat := 189
abbrev m_Wheel_is_ready : Nat := 196
abbrev m_Wheel_copied : Nat := 203
noncomputable def tab : Tab where
  glob := [(("is_whole" : Str), .ref a_is_whole), (("step" : Str), .ref a_step), (("_law_cell_at" : Str), .ref a_law_cell_at), (("_law_told" : Str), .ref a_law_told), (("_law_least" : Str), .ref a_law_least), (("_law_turn" : Str), .ref a_law_turn), (("law" : Str), .ref a_law), (("ShareError" : Str), .ref a_ShareError), (("BadShare" : Str), .ref a_BadShare), (("Twice" : Str), .ref a_Twice), (("NoName" : Str), .ref a_NoName), (("Sharer" : Str), .ref a_Sharer), (("Wheel" : Str), .ref a_Wheel), (("ROUND" : Str), .int 27720), (("MOST" : Str), .int 12), (("ValueError" : Str), .con (.type "ValueError")), (("bool" : Str), .con (.type "bool")), (("int" : Str), .con (.type "int")), (("isinstance" : Str), .con (.builtin "isinstance")), (("len" : Str), .con (.builtin "len")), (("list" : Str), .con (.type "list")), (("max" : Str), .con (.builtin "max")), (("range" : Str), .con (.type "range")), (("str" : Str), .con (.type "str"))]
  meth := [((a_Sharer, ("__init__" : Str)), m_Sharer_init), ((a_Wheel, ("__init__" : Str)), m_Wheel_init), ((a_Wheel, ("need" : Str)), m_Wheel_need), ((a_Wheel, ("enter" : Str)), m_Wheel_enter), ((a_Wheel, ("leave" : Str)), m_Wheel_leave), ((a_Wheel, ("reshare" : Str)), m_Wheel_reshare), ((a_Wheel, ("wake" : Str)), m_Wheel_wake), ((a_Wheel, ("rest" : Str)), m_Wheel_rest), ((a_Wheel, ("whose" : Str)), m_Wheel_whose), ((a_Wheel, ("turn" : Str)), m_Wheel_turn), ((a_Wheel, ("names" : Str)), m_Wheel_names), ((a_Wheel, ("clock_of" : Str)), m_Wheel_clock_of), ((a_Wheel, ("share_of" : Str)), m_Wheel_share_of), ((a_Wheel, ("is_ready" : Str)), m_Wheel_is_ready), ((a_Wheel, ("copied" : Str)), m_Wheel_copied)]
  fld := [(a_Sharer, ("share" : Str)), (a_Sharer, ("clock" : Str)), (a_Sharer, ("ready" : Str)), (a_Wheel, ("past" : Str)), (a_Wheel, ("sharers" : Str))]
  init := [(a_Sharer, m_Sharer_init), (a_Wheel, m_Wheel_init)]
  fns := [a_is_whole, a_step, a_law_cell_at, a_law_told, a_law_least, a_law_turn, a_law]
noncomputable def cx (w : World) (mean : ExcName → Option Value) (mg mb : Str → Option Value) : Cx := tab.cx PySem.Challenge.rw_uf030004_04.row.prog w (hd.heap_39 w.params) hd.view_39 (looseW hd.view_39 []) mean mg mb
theorem cx_ok (w : World) (mean : ExcName → Option Value) (mg mb : Str → Option Value) : CxOk (cx w mean mg mb) := Tab.ok
  (all_cons (globRef (by kernel_rfl) (by kernel_rfl)) (all_cons (globRef (by kernel_rfl) (by kernel_rfl)) (all_cons (globRef (by kernel_rfl) (by kernel_rfl)) (all_cons (globRef (by kernel_rfl) (by kernel_rfl)) (all_cons (globRef (by kernel_rfl) (by kernel_rfl)) (all_cons (globRef (by kernel_rfl) (by kernel_rfl)) (all_cons (globRef (by kernel_rfl) (by kernel_rfl)) (all_cons (globRef (by kernel_rfl) (by kernel_rfl)) (all_cons (globRef (by kernel_rfl) (by kernel_rfl)) (all_cons (globRef (by kernel_rfl) (by kernel_rfl)) (all_cons (globRef (by kernel_rfl) (by kernel_rfl)) (all_cons (globRef (by kernel_rfl) (by kernel_rfl)) (all_cons (globRef (by kernel_rfl) (by kernel_rfl)) (all_cons (globInt (t := _) (by kernel_rfl) (by rfl)) (all_cons (globInt (t := _) (by kernel_rfl) (by rfl)) (all_cons (globBuiltin (by kernel_rfl) (by kernel_rfl) (by decide +kernel) (by kernel_rfl)) (all_cons (globBuiltin (by kernel_rfl) (by kernel_rfl) (by decide +kernel) (by kernel_rfl)) (all_cons (globBuiltin (by kernel_rfl) (by kernel_rfl) (by decide +kernel) (by kernel_rfl)) (all_cons (globBuiltin (by kernel_rfl) (by kernel_rfl) (by decide +kernel) (by kernel_rfl)) (all_cons (globBuiltin (by kernel_rfl) (by kernel_rfl) (by decide +kernel) (by kernel_rfl)) (all_cons (globBuiltin (by kernel_rfl) (by kernel_rfl) (by decide +kernel) (by kernel_rfl)) (all_cons (globBuiltin (by kernel_rfl) (by kernel_rfl) (by decide +kernel) (by kernel_rfl)) (all_cons (globBuiltin (by kernel_rfl) (by kernel_rfl) (by decide +kernel) (by kernel_rfl)) (all_cons (globBuiltin (by kernel_rfl) (by kernel_rfl) (by decide +kernel) (by kernel_rfl)) (all_nil)))))))))))))))))))))))))
  (all_cons (⟨by kernel_rfl, by kernel_rfl, by kernel_rfl, by kernel_rfl⟩) (all_cons (⟨by kernel_rfl, by kernel_rfl, by kernel_rfl, by kernel_rfl⟩) (all_cons (⟨by kernel_rfl, by kernel_rfl, by kernel_rfl, by kernel_rfl⟩) (all_cons (⟨by kernel_rfl, by kernel_rfl, by kernel_rfl, by kernel_rfl⟩) (all_cons (⟨by kernel_rfl, by kernel_rfl, by kernel_rfl, by kernel_rfl⟩) (all_cons (⟨by kernel_rfl, by kernel_rfl, by kernel_rfl, by kernel_rfl⟩) (all_cons (⟨by kernel_rfl, by kernel_rfl, by kernel_rfl, by kernel_rfl⟩) (all_cons (⟨by kernel_rfl, by kernel_rfl, by kernel_rfl, by kernel_rfl⟩) (all_cons (⟨by kernel_rfl, by kernel_rfl, by kernel_rfl, by kernel_rfl⟩) (all_cons (⟨by kernel_rfl, by kernel_rfl, by kernel_rfl, by kernel_rfl⟩) (all_cons (⟨by kernel_rfl, by kernel_rfl, by kernel_rfl, by kernel_rfl⟩) (all_cons (⟨by kernel_rfl, by kernel_rfl, by kernel_rfl, by kernel_rfl⟩) (all_cons (⟨by kernel_rfl, by kernel_rfl, by kernel_rfl, by kernel_rfl⟩) (all_cons (⟨by kernel_rfl, by kernel_rfl, by kernel_rfl, by kernel_rfl⟩) (all_cons (⟨by kernel_rfl, by kernel_rfl, by kernel_rfl, by kernel_rfl⟩) (all_nil))))))))))))))))
  (all_cons (⟨by kernel_rfl, by kernel_rfl, by kernel_rfl, by kernel_rfl, by kernel_rfl, by kernel_rfl⟩) (all_cons (⟨by kernel_rfl, by kernel_rfl, by kernel_rfl, by kernel_rfl, by kernel_rfl, by kernel_rfl⟩) (all_cons (⟨by kernel_rfl, by kernel_rfl, by kernel_rfl, by kernel_rfl, by kernel_rfl, by kernel_rfl⟩) (all_cons (⟨by kernel_rfl, by kernel_rfl, by kernel_rfl, by kernel_rfl, by kernel_rfl, by kernel_rfl⟩) (all_cons (⟨by kernel_rfl, by kernel_rfl, by kernel_rfl, by kernel_rfl, by kernel_rfl, by kernel_rfl⟩) (all_nil))))))
  (all_cons (⟨by kernel_rfl, by kernel_rfl, by kernel_rfl, by kernel_rfl⟩) (all_cons (⟨by kernel_rfl, by kernel_rfl, by kernel_rfl, by kernel_rfl⟩) (all_nil)))
  (all_cons (by kernel_rfl) (all_cons (by kernel_rfl) (all_cons (by kernel_rfl) (all_cons (by kernel_rfl) (all_cons (by kernel_rfl) (all_cons (by kernel_rfl) (all_cons (by kernel_rfl) (all_nil))))))))
variable {w : World} {mean : ExcName → Option Value} {mg mb : Str → Option Value} {sc : Scope} {ρ : Lo} {σ : Hp} {X : EX} {Q : MV → Hp → Prop} {n : Nat}
theorem g_is_whole : (cx w mean mg mb).glob ("is_whole" : Str) = some (.ref a_is_whole) := by kernel_rfl
theorem g_step : (cx w mean mg mb).glob ("step" : Str) = some (.ref a_step) := by kernel_rfl
theorem g_law_cell_at : (cx w mean mg mb).glob ("_law_cell_at" : Str) = some (.ref a_law_cell_at) := by kernel_rfl
theorem g_law_told : (cx w mean mg mb).glob ("_law_told" : Str) = some (.ref a_law_told) := by kernel_rfl
theorem g_law_least : (cx w mean mg mb).glob ("_law_least" : Str) = some (.ref a_law_least) := by kernel_rfl
theorem g_law_turn : (cx w mean mg mb).glob ("_law_turn" : Str) = some (.ref a_law_turn) := by kernel_rfl
theorem g_law : (cx w mean mg mb).glob ("law" : Str) = some (.ref a_law) := by kernel_rfl
theorem g_ShareError : (cx w mean mg mb).glob ("ShareError" : Str) = some (.ref a_ShareError) := by kernel_rfl
theorem g_BadShare : (cx w mean mg mb).glob ("BadShare" : Str) = some (.ref a_BadShare) := by kernel_rfl
theorem g_Twice : (cx w mean mg mb).glob ("Twice" : Str) = some (.ref a_Twice) := by kernel_rfl
theorem g_NoName : (cx w mean mg mb).glob ("NoName" : Str) = some (.ref a_NoName) := by kernel_rfl
theorem g_Sharer : (cx w mean mg mb).glob ("Sharer" : Str) = some (.ref a_Sharer) := by kernel_rfl
theorem g_Wheel : (cx w mean mg mb).glob ("Wheel" : Str) = some (.ref a_Wheel) := by kernel_rfl
theorem g_ROUND : (cx w mean mg mb).glob ("ROUND" : Str) = some (.int 27720) := by kernel_rfl
theorem g_MOST : (cx w mean mg mb).glob ("MOST" : Str) = some (.int 12) := by kernel_rfl
theorem g_ValueError : (cx w mean mg mb).glob ("ValueError" : Str) = some (.con (.type "ValueError")) := by kernel_rfl
theorem g_bool : (cx w mean mg mb).glob ("bool" : Str) = some (.con (.type "bool")) := by kernel_rfl
theorem g_int : (cx w mean mg mb).glob ("int" : Str) = some (.con (.type "int")) := by kernel_rfl
theorem g_isinstance : (cx w mean mg mb).glob ("isinstance" : Str) = some (.con (.builtin "isinstance")) := by kernel_rfl
theorem g_len : (cx w mean mg mb).glob ("len" : Str) = some (.con (.builtin "len")) := by kernel_rfl
theorem g_list : (cx w mean mg mb).glob ("list" : Str) = some (.con (.type "list")) := by kernel_rfl
theorem g_max : (cx w mean mg mb).glob ("max" : Str) = some (.con (.builtin "max")) := by kernel_rfl
theorem g_range : (cx w mean mg mb).glob ("range" : Str) = some (.con (.type "range")) := by kernel_rfl
theorem g_str : (cx w mean mg mb).glob ("str" : Str) = some (.con (.type "str")) := by kernel_rfl
theorem k_int_int : kitOne (cx w mean mg mb).K (.type "int") (.type "int") = some true := by kernel_rfl
theorem k_int_bool : kitOne (cx w mean mg mb).K (.type "int") (.type "bool") = some false := by kernel_rfl
theorem k_int_str : kitOne (cx w mean mg mb).K (.type "int") (.type "str") = some false := by kernel_rfl
theorem k_int_list : kitOne (cx w mean mg mb).K (.type "int") (.type "list") = some false := by kernel_rfl
theorem k_bool_int : kitOne (cx w mean mg mb).K (.type "bool") (.type "int") = some true := by kernel_rfl
theorem k_bool_bool : kitOne (cx w mean mg mb).K (.type "bool") (.type "bool") = some true := by kernel_rfl
theorem k_bool_str : kitOne (cx w mean mg mb).K (.type "bool") (.type "str") = some false := by kernel_rfl
theorem k_bool_list : kitOne (cx w mean mg mb).K (.type "bool") (.type "list") = some false := by kernel_rfl
theorem k_str_int : kitOne (cx w mean mg mb).K (.type "str") (.type "int") = some false := by kernel_rfl
theorem k_str_bool : kitOne (cx w mean mg mb).K (.type "str") (.type "bool") = some false := by kernel_rfl
theorem k_str_str : kitOne (cx w mean mg mb).K (.type "str") (.type "str") = some true := by kernel_rfl
theorem k_str_list : kitOne (cx w mean mg mb).K (.type "str") (.type "list") = some false := by kernel_rfl
theorem k_NoneType_int : kitOne (cx w mean mg mb).K (.type "NoneType") (.type "int") = some false := by kernel_rfl
theorem k_NoneType_bool : kitOne (cx w mean mg mb).K (.type "NoneType") (.type "bool") = some false := by kernel_rfl
theorem k_NoneType_str : kitOne (cx w mean mg mb).K (.type "NoneType") (.type "str") = some false := by kernel_rfl
theorem k_NoneType_list : kitOne (cx w mean mg mb).K (.type "NoneType") (.type "list") = some false := by kernel_rfl
theorem k_list_int : kitOne (cx w mean mg mb).K (.type "list") (.type "int") = some false := by kernel_rfl
theorem k_list_bool : kitOne (cx w mean mg mb).K (.type "list") (.type "bool") = some false := by kernel_rfl
theorem k_list_str : kitOne (cx w mean mg mb).K (.type "list") (.type "str") = some false := by kernel_rfl
theorem k_list_list : kitOne (cx w mean mg mb).K (.type "list") (.type "list") = some true := by kernel_rfl
theorem k_tuple_int : kitOne (cx w mean mg mb).K (.type "tuple") (.type "int") = some false := by kernel_rfl
theorem k_tuple_bool : kitOne (cx w mean mg mb).K (.type "tuple") (.type "bool") = some false := by kernel_rfl
theorem k_tuple_str : kitOne (cx w mean mg mb).K (.type "tuple") (.type "str") = some false := by kernel_rfl
theorem k_tuple_list : kitOne (cx w mean mg mb).K (.type "tuple") (.type "list") = some false := by kernel_rfl
theorem ms_Sharer_init : (cx w mean mg mb).meth a_Sharer ("__init__" : Str) = some m_Sharer_init := by kernel_rfl
theorem mi_Sharer : (cx w mean mg mb).init a_Sharer = some m_Sharer_init := by kernel_rfl
theorem ms_Wheel_init : (cx w mean mg mb).meth a_Wheel ("__init__" : Str) = some m_Wheel_init := by kernel_rfl
theorem mi_Wheel : (cx w mean mg mb).init a_Wheel = some m_Wheel_init := by kernel_rfl
theorem ms_Wheel_need : (cx w mean mg mb).meth a_Wheel ("need" : Str) = some m_Wheel_need := by kernel_rfl
theorem ms_Wheel_enter : (cx w mean mg mb).meth a_Wheel ("enter" : Str) = some m_Wheel_enter := by kernel_rfl
theorem ms_Wheel_leave : (cx w mean mg mb).meth a_Wheel ("leave" : Str) = some m_Wheel_leave := by kernel_rfl
theorem ms_Wheel_reshare : (cx w mean mg mb).meth a_Wheel ("reshare" : Str) = some m_Wheel_reshare := by kernel_rfl
theorem ms_Wheel_wake : (cx w mean mg mb).meth a_Wheel ("wake" : Str) = some m_Wheel_wake := by kernel_rfl
theorem ms_Wheel_rest : (cx w mean mg mb).meth a_Wheel ("rest" : Str) = some m_Wheel_rest := by kernel_rfl
theorem ms_Wheel_whose : (cx w mean mg mb).meth a_Wheel ("whose" : Str) = some m_Wheel_whose := by kernel_rfl
theorem ms_Wheel_turn : (cx w mean mg mb).meth a_Wheel ("turn" : Str) = some m_Wheel_turn := by kernel_rfl
theorem ms_Wheel_names : (cx w mean mg mb).meth a_Wheel ("names" : Str) = some m_Wheel_names := by kernel_rfl
theorem ms_Wheel_clock_of : (cx w mean mg mb).meth a_Wheel ("clock_of" : Str) = some m_Wheel_clock_of := by kernel_rfl
theorem ms_Wheel_share_of : (cx w mean mg mb).meth a_Wheel ("share_of" : Str) = some m_Wheel_share_of := by kernel_rfl
theorem ms_Wheel_is_ready : (cx w mean mg mb).meth a_Wheel ("is_ready" : Str) = some m_Wheel_is_ready := by kernel_rfl
theorem ms_Wheel_copied : (cx w mean mg mb).meth a_Wheel ("copied" : Str) = some m_Wheel_copied := by kernel_rfl
theorem fn_is_whole : (cx w mean mg mb).fns a_is_whole = true := by kernel_rfl
theorem fn_step : (cx w mean mg mb).fns a_step = true := by kernel_rfl
theorem fn_law_cell_at : (cx w mean mg mb).fns a_law_cell_at = true := by kernel_rfl
theorem fn_law_told : (cx w mean mg mb).fns a_law_told = true := by kernel_rfl
theorem fn_law_least : (cx w mean mg mb).fns a_law_least = true := by kernel_rfl
theorem fn_law_turn : (cx w mean mg mb).fns a_law_turn = true := by kernel_rfl
theorem fn_law : (cx w mean mg mb).fns a_law = true := by kernel_rfl
local macro_rules | `(tactic| walk_at "lk") => `(tactic| first
  | (with_reducible exact Lo.put_self)
  | ((with_reducible refine Lo.put_ne ?_ ?_); (· kernel_rfl); walk_at "lk")
  | with_reducible assumption)
local macro_rules | `(tactic| walk_at "fr") => `(tactic| first
  | with_reducible assumption
  | exact Fresh.none (by with_reducible assumption))
local macro_rules | `(tactic| walk_at "hp") => `(tactic| first
  | with_reducible assumption
  | (with_reducible exact Hp.self)
  | ((with_reducible refine Hp.new ?_ ?_); (· walk_at "fr"); walk_at "hp")
  | ((with_reducible apply Hp.tag'); (walk_at "hp"); (walk_at "hp"); (decide)))
local macro_rules | `(tactic| walk_at "la") => `(tactic| first
  | with_reducible assumption
  | ((with_reducible apply ListAt.own); walk_at "hp")
  | ((with_reducible apply ListAt.k); walk_at "hp"))
local macro_rules | `(tactic| walk_at "fl") => `(tactic| first
  | (with_reducible exact lk_head)
  | ((with_reducible refine lk_tail ?_ ?_); (· kernel_rfl); walk_at "fl"))
local macro_rules | `(tactic| walk_at "kind") => `(tactic| first
  | with_reducible assumption
  | (with_reducible exact KindOf.int) | (with_reducible exact KindOf.str) | (with_reducible exact KindOf.bool) | (with_reducible exact KindOf.none)
  | ((with_reducible apply KindOf.list); walk_at "hp") | ((with_reducible apply KindOf.tuple); walk_at "hp"))
local macro_rules | `(tactic| walk_at "ar") => `(tactic| first | with_reducible assumption | decide | omega)
local macro_rules | `(tactic| walk_at "as") => `(tactic| with_reducible assumption)
local macro_rules | `(tactic| walk_at "u") => `(tactic| with_unfolding_all (first | exact fun _ _ => rfl | exact fun _ _ _ => rfl))
structure Shr where
  name : Str
  a : Nat
  share : Int
  clock : Int
  ready : Bool
def Shr.obj (x : Shr) : MO := .inst a_Sharer [("share", .int x.share), ("clock", .int x.clock), ("ready", .bool x.ready)]
def wObj (past : Int) (d : Nat) : MO := .inst a_Wheel [("past", .int past), ("sharers", .ref d)]
def ents (l : List Shr) : List (Str × MV) := l.map fun x => (x.name, .ref x.a)
theorem getK_ents : ∀ {l : List Shr} {k : Nat} {x : Shr}, (l.map (·.name)).Nodup → l[k]? = some x → getK (ents l) x.name = some (.ref x.a)
  | [], k, x, _, h => by simp at h
  | y :: l, 0, x, _, h => by
    simp at h; subst h
    simp [getK, ents]
  | y :: l, k + 1, x, nd, h => by
    simp only [List.map_cons, List.nodup_cons] at nd
    simp only [List.getElem?_cons_succ] at h
    have hm : x.name ∈ l.map (·.name) := List.mem_map.mpr ⟨x, List.mem_of_getElem? h, rfl⟩
    have hne : y.name ≠ x.name := fun q => nd.1 (q ▸ hm)
    have ih := getK_ents nd.2 h
    simp only [getK, ents, List.map_cons, List.find?_cons, decide_eq_false hne] at ih ⊢
    exact ih
theorem getK_out {l : List Shr} {n : Str} (h : n ∉ l.map (·.name)) : getK (ents l) n = Option.none := by
  unfold getK ents
  rw [List.find?_eq_none.mpr]
  · rfl
  · intro p hp
    obtain ⟨x, hx, rfl⟩ := List.mem_map.mp hp
    simp only [decide_eq_true_eq]
    exact fun q => h (List.mem_map.mpr ⟨x, hx, q⟩)
theorem putK_out {l : List Shr} {n : Str} {v : MV} (h : n ∉ l.map (·.name)) : putK (ents l) n v = ents l ++ [(n, v)] := by
  unfold putK
  rw [if_neg]
  simp only [Bool.not_eq_true, List.any_eq_false, decide_eq_true_eq]
  intro p hp
  obtain ⟨x, hx, rfl⟩ := List.mem_map.mp hp
  exact fun q => h (List.mem_map.mpr ⟨x, hx, q⟩)
structure WheelD (σ : Hp) (W d t : Nat) (past : Int) (l : List Shr) : Prop where
  whl : σ W = some (t, wObj past d)
  dic : σ d = some (t, .sdict (ents l))
  shr : ∀ x ∈ l, σ x.a = some (t, x.obj)
  nn : (l.map (·.name)).Nodup
  na : (l.map (·.a)).Nodup
theorem WheelD.keep {σ σ' : Hp} {W d t : Nat} {past : Int} {l : List Shr} (h : WheelD σ W d t past l) (k : Kpt t σ σ') : WheelD σ' W d t past l :=
  ⟨k.at h.whl, k.at h.dic, fun x hx => k.at (h.shr x hx), h.nn, h.na⟩
theorem WheelD.past {σ : Hp} {W d t : Nat} {past past' : Int} {l : List Shr} (h : WheelD σ W d t past l) : WheelD (σ.put W t (wObj past' d)) W d t past' l where
  whl := Hp.self
  dic := Hp.ne (fun q => by have := h.dic; rw [q, h.whl] at this; simp [wObj] at this) h.dic
  shr := fun x hx => Hp.ne (fun q => by have := h.shr x hx; rw [q, h.whl] at this; simp [wObj, Shr.obj] at this) (h.shr x hx)
  nn := h.nn
  na := h.na
theorem map_set' {α β : Type} (f : α → β) (l : List α) (k : Nat) (y : α) : (l.set k y).map f = (l.map f).set k (f y) := List.map_set
theorem set_same {α : Type} : ∀ {l : List α} {k : Nat} {y : α}, l[k]? = some y → l.set k y = l
  | [], _, _, h => by simp at h
  | z :: l, 0, y, h => by simp at h; subst h; rfl
  | z :: l, k + 1, y, h => by
    simp only [List.getElem?_cons_succ] at h
    simp only [List.set_cons_succ, set_same h]
theorem map_set_same {α β : Type} (f : α → β) {l : List α} {k : Nat} {x y : α} (h : l[k]? = some x) (e : f y = f x) : (l.set k y).map f = l.map f := by
  rw [map_set', e]
  exact set_same (by rw [List.getElem?_map, h]; rfl)
theorem mem_set_or {α : Type} {l : List α} {k : Nat} {y z : α} (h : z ∈ l.set k y) : z = y ∨ ∃ j, j ≠ k ∧ l[j]? = some z := by
  obtain ⟨j, hj⟩ := List.mem_iff_getElem?.mp h
  rw [List.getElem?_set] at hj
  by_cases q : k = j
  · subst q
    simp only [if_true] at hj
    split at hj
    · exact .inl (Option.some.inj hj).symm
    · simp at hj
  · rw [if_neg q] at hj
    exact .inr ⟨j, fun e => q e.symm, hj⟩
theorem nodup_at {α β : Type} {f : α → β} : ∀ {l : List α} {j k : Nat} {x y : α}, (l.map f).Nodup → l[j]? = some x → l[k]? = some y → f x = f y → j = k
  | [], _, _, _, _, _, h, _, _ => by simp at h
  | z :: l, 0, 0, _, _, _, _, _, _ => rfl
  | z :: l, 0, k + 1, x, y, nd, hx, hy, e => by
    simp only [List.map_cons, List.nodup_cons] at nd
    simp at hx hy; subst hx
    exact absurd (List.mem_map.mpr ⟨y, List.mem_of_getElem? hy, e.symm⟩) nd.1
  | z :: l, j + 1, 0, x, y, nd, hx, hy, e => by
    simp only [List.map_cons, List.nodup_cons] at nd
    simp at hx hy; subst hy
    exact absurd (List.mem_map.mpr ⟨x, List.mem_of_getElem? hx, e⟩) nd.1
  | z :: l, j + 1, k + 1, x, y, nd, hx, hy, e => by
    simp only [List.map_cons, List.nodup_cons] at nd
    simp only [List.getElem?_cons_succ] at hx hy
    rw [nodup_at nd.2 hx hy e]
theorem WheelD.upd {σ : Hp} {W d t : Nat} {past : Int} {l : List Shr} (h : WheelD σ W d t past l) {k : Nat} {x y : Shr} (hk : l[k]? = some x) (hn : y.name = x.name) (ha : y.a = x.a) :
    WheelD (σ.put x.a t y.obj) W d t past (l.set k y) where
  whl := Hp.ne (fun q => by have := h.shr x (List.mem_of_getElem? hk); rw [← q, h.whl] at this; simp [wObj, Shr.obj] at this) h.whl
  dic := Hp.ne (fun q => by have := h.shr x (List.mem_of_getElem? hk); rw [← q, h.dic] at this; simp [Shr.obj] at this) (by
    rw [h.dic]
    have : ents (l.set k y) = ents l := map_set_same _ hk (by rw [hn, ha])
    rw [this])
  shr := fun z hz => by
    rcases mem_set_or hz with rfl | ⟨j, hj, hz⟩
    · rw [ha]; exact Hp.self
    · exact Hp.ne (fun q => hj (nodup_at h.na hz hk q)) (h.shr z (List.mem_of_getElem? hz))
  nn := by rw [map_set_same _ hk hn]; exact h.nn
  na := by rw [map_set_same _ hk ha]; exact h.na
theorem WheelD.enter {σ : Hp} {W d t : Nat} {past : Int} {l : List Shr} (h : WheelD σ W d t past l) {y : Shr} (hb : σ y.a = Option.none) (hn : y.name ∉ l.map (·.name)) :
    WheelD ((σ.put y.a t y.obj).put d t (.sdict (ents (l ++ [y])))) W d t past (l ++ [y]) where
  whl := Hp.ne (fun q => by have := h.dic; rw [← q, h.whl] at this; simp [wObj] at this) (Hp.new hb h.whl)
  dic := Hp.self
  shr := fun z hz => by
    rcases List.mem_append.mp hz with hz | hz
    · exact Hp.ne (fun q => by have := h.dic; rw [← q, h.shr z hz] at this; simp [Shr.obj] at this) (Hp.new hb (h.shr z hz))
    · simp at hz; subst hz
      exact Hp.ne (fun q => by have := h.dic; rw [← q, hb] at this; simp at this) Hp.self
  nn := by
    rw [List.map_append]
    refine List.nodup_append.mpr ⟨h.nn, by simp, fun a ha b hb q => ?_⟩
    simp at hb; subst hb; subst q; exact hn ha
  na := by
    rw [List.map_append]
    refine List.nodup_append.mpr ⟨h.na, by simp, fun a ha b hb' q => ?_⟩
    simp at hb'; subst hb'
    obtain ⟨z, hz, e⟩ := List.mem_map.mp ha
    have := h.shr z hz
    rw [e, q, hb] at this; simp at this
/-- whose turn it is -/
def better (x : Shr) : Option Shr → Bool
  | .none => true
  | some y => decide (x.clock < y.clock)
def pick : List Shr → Option Shr → Option Shr
  | [], f => f
  | x :: l, f => pick l (if x.ready && better x f then some x else f)
def whoV : Option Shr → MV
  | .none => .none
  | some x => .str x.name
def dealt (x : Shr) : Shr := { x with clock := x.clock + (27720 : Int).fdiv x.share }
theorem pick_none : ∀ {l : List Shr} {f : Option Shr}, (∀ x ∈ l, x.ready = false) → pick l f = f
  | [], _, _ => rfl
  | x :: l, f, h => by
    simp only [pick, h x (List.mem_cons_self ..), Bool.false_and]
    exact pick_none fun y hy => h y (List.mem_cons_of_mem _ hy)
theorem pick_only : ∀ {l : List Shr} {k : Nat} {x : Shr}, l[k]? = some x → x.ready = true → (∀ j y, l[j]? = some y → j ≠ k → y.ready = false) → pick l Option.none = some x
  | [], _, _, h, _, _ => by simp at h
  | y :: l, 0, x, h, hr, ho => by
    simp at h; subst h
    simp only [pick, hr, better, Bool.and_self]
    exact pick_none fun z hz => by
      obtain ⟨j, hj⟩ := List.mem_iff_getElem?.mp hz
      exact ho (j + 1) z (by simpa using hj) (by omega)
  | y :: l, k + 1, x, h, hr, ho => by
    have hy := ho 0 y (by simp) (by omega)
    simp only [pick, hy, Bool.false_and]
    exact pick_only (by simpa using h) hr fun j z hz hj => ho (j + 1) z (by simpa using hz) (by omega)
theorem pick_mem : ∀ {l : List Shr} {f : Option Shr} {x : Shr}, pick l f = some x → (x ∈ l ∧ x.ready = true) ∨ f = some x
  | [], _, _, h => .inr h
  | y :: l, f, x, h => by
    simp only [pick] at h
    rcases pick_mem h with h | h
    · exact .inl ⟨List.mem_cons_of_mem _ h.1, h.2⟩
    · split at h
      · rename_i q
        cases h
        simp only [Bool.and_eq_true] at q
        exact .inl ⟨List.mem_cons_self .., q.1⟩
      · exact .inr h
theorem is_whole_int {k lo hi : Int} (h : Q (.bool (decide (lo ≤ k) && decide (k ≤ hi))) σ) : WFn (cx w mean mg mb) ⟨n + 1, true, sc⟩ a_is_whole [.int k, .int lo, .int hi] ρ Q X σ := by
  refine WFn.fn3 (p1 := "thing") (p2 := "least") (p3 := "most") ⟨⟨_, _, _, _, _, _, _, _, _, _, _, _, _, (rfl : (Mine.hd.heap_39 w.params).lookup a_is_whole = _), by kernel_rfl, us3 fun _ _ _ => rfl⟩, by kernel_rfl⟩ ?_
  with_reducible refine WSs.cons ?_
  with_reducible refine WS.ite ?_
  with_reducible refine WT.bool ?_
  with_reducible refine WA.or ?_
  with_reducible refine WT.plain (by walk_at "u") ?_
  with_reducible refine WE.call rfl rfl ?_
  with_reducible refine WE.globalA (by kernel_rfl) g_isinstance ?_
  with_reducible refine And.intro (Callee.con rfl) ?_
  with_reducible refine WEs.cons rfl ?_
  with_reducible refine WE.localA (by kernel_rfl) (by kernel_rfl) (by walk_at "lk") ?_
  with_reducible refine WEs.cons rfl ?_
  with_reducible refine WE.globalA (by kernel_rfl) g_bool ?_
  with_reducible refine WEs.nil ?_
  with_reducible refine WCall.isinstance (by walk_at "kind") k_int_bool ?_
  with_reducible refine WTr.bool ?_
  with_reducible refine if_ff ?_
  with_reducible refine WA.or ?_
  with_reducible refine WT.not ?_
  with_reducible refine WT.plain (by walk_at "u") ?_
  with_reducible refine WE.call rfl rfl ?_
  with_reducible refine WE.globalA (by kernel_rfl) g_isinstance ?_
  with_reducible refine And.intro (Callee.con rfl) ?_
  with_reducible refine WEs.cons rfl ?_
  with_reducible refine WE.localA (by kernel_rfl) (by kernel_rfl) (by walk_at "lk") ?_
  with_reducible refine WEs.cons rfl ?_
  with_reducible refine WE.globalA (by kernel_rfl) g_int ?_
  with_reducible refine WEs.nil ?_
  with_reducible refine WCall.isinstance (by walk_at "kind") k_int_int ?_
  with_reducible refine WTr.bool ?_
  with_reducible refine if_nt ?_
  with_reducible refine WA.or_nil ?_
  with_reducible refine if_ff ?_
  with_reducible refine WSs.nil ?_
  with_reducible refine WSs.cons ?_
  with_reducible refine WS.ret ?_
  with_reducible refine WE.cmp2 rfl ?_
  with_reducible refine WE.localA (by kernel_rfl) (by kernel_rfl) (by walk_at "lk") ?_
  with_reducible refine WE.localA (by kernel_rfl) (by kernel_rfl) (by walk_at "lk") ?_
  with_reducible refine WC.le ?_
  with_reducible refine WTr.bool ?_
  by_cases h1 : lo ≤ k
  · rw [decide_eq_true h1] at h ⊢
    with_reducible refine if_tt ?_
    with_reducible refine WE.localA (by kernel_rfl) (by kernel_rfl) (by walk_at "lk") ?_
    with_reducible refine WC.le ?_
    exact h
  · rw [decide_eq_false h1] at h ⊢
    with_reducible refine if_ff ?_
    exact h
theorem step_ok {k : Int} (h0 : 1 ≤ k) (h1 : k ≤ 12) (h : Q (.int ((27720 : Int).fdiv k)) σ) : WFn (cx w mean mg mb) ⟨n + 2, true, sc⟩ a_step [.int k] ρ Q X σ := by
  refine WFn.fn1 (p1 := "share") ⟨⟨_, _, _, _, _, _, _, _, _, _, _, _, _, (rfl : (Mine.hd.heap_39 w.params).lookup a_step = _), by kernel_rfl, us1 fun _ => rfl⟩, by kernel_rfl⟩ ?_
  with_reducible refine WSs.cons ?_
  with_reducible refine WS.ite ?_
  with_reducible refine WT.not ?_
  with_reducible refine WT.plain (by walk_at "u") ?_
  with_reducible refine WE.call rfl rfl ?_
  with_reducible refine WE.globalA (by kernel_rfl) g_is_whole ?_
  with_reducible refine And.intro (Callee.fn fn_is_whole) ?_
  with_reducible refine WEs.cons rfl ?_
  with_reducible refine WE.localA (by kernel_rfl) (by kernel_rfl) (by walk_at "lk") ?_
  with_reducible refine WEs.cons rfl ?_
  with_reducible refine WE.int ?_
  with_reducible refine WEs.cons rfl ?_
  with_reducible refine WE.globalA (by kernel_rfl) g_MOST ?_
  with_reducible refine WEs.nil ?_
  have e : (decide (1 ≤ k) && decide (k ≤ 12)) = true := by rw [decide_eq_true h0, decide_eq_true h1]; rfl
  refine WCall.of_fn (is_whole_int ?_)
  rw [e]
  with_reducible refine WTr.bool ?_
  with_reducible refine if_nt ?_
  with_reducible refine WSs.nil ?_
  with_reducible refine WSs.cons ?_
  with_reducible refine WS.ret ?_
  with_reducible refine WE.binop ?_
  with_reducible refine WE.globalA (by kernel_rfl) g_ROUND ?_
  with_reducible refine WE.localA (by kernel_rfl) (by kernel_rfl) (by walk_at "lk") ?_
  with_reducible refine WB.div (by walk_at "ar") (by walk_at "ar") ?_
  exact h
theorem make_sharer (t : Nat) {v1 v2 v3 : MV} (h : ∀ b, Fresh σ b → Q (.ref b) (σ.put b t (.inst a_Sharer [("share", v1), ("clock", v2), ("ready", v3)]))) :
    WFn (cx w mean mg mb) ⟨n + 2, true, sc⟩ a_Sharer [v1, v2, v3] ρ Q X σ := by
  refine WFn.make t mi_Sharer fun b hb hbn => ?_
  refine WFn.fn4 (p1 := "self") (p2 := "share") (p3 := "clock") (p4 := "ready") ⟨⟨_, _, _, _, _, _, _, _, _, _, _, _, _, (rfl : (Mine.hd.heap_39 w.params).lookup m_Sharer_init = _), by kernel_rfl, us4 fun _ _ _ _ => rfl⟩, by kernel_rfl⟩ ?_
  with_reducible refine WSs.cons ?_
  with_reducible refine WS.setAttr (by walk_at "u") ?_
  with_reducible refine WE.localA (by kernel_rfl) (by kernel_rfl) (by walk_at "lk") ?_
  with_reducible refine WE.localA (by kernel_rfl) (by kernel_rfl) (by walk_at "lk") ?_
  refine WSet.inst' (fs' := [("share", v1)]) Hp.self (by kernel_rfl) (by kernel_rfl) (by simp) ?_
  with_reducible refine WSs.cons ?_
  with_reducible refine WS.setAttr (by walk_at "u") ?_
  with_reducible refine WE.localA (by kernel_rfl) (by kernel_rfl) (by walk_at "lk") ?_
  with_reducible refine WE.localA (by kernel_rfl) (by kernel_rfl) (by walk_at "lk") ?_
  refine WSet.inst' (fs' := [("share", v1), ("clock", v2)]) Hp.self (by kernel_rfl) (by kernel_rfl) (by simp) ?_
  with_reducible refine WSs.cons ?_
  with_reducible refine WS.setAttr (by walk_at "u") ?_
  with_reducible refine WE.localA (by kernel_rfl) (by kernel_rfl) (by walk_at "lk") ?_
  with_reducible refine WE.localA (by kernel_rfl) (by kernel_rfl) (by walk_at "lk") ?_
  refine WSet.inst' (fs' := [("share", v1), ("clock", v2), ("ready", v3)]) Hp.self (by kernel_rfl) (by kernel_rfl) (by simp) ?_
  with_reducible refine WSs.nil ?_
  refine ⟨rfl, ?_⟩
  rw [Hp.put_put, Hp.put_put, Hp.put_put]
  exact h b hb
theorem make_wheel (t : Nat) (h : ∀ W d σ', WheelD σ' W d t 0 [] → (∀ a p, σ a = some p → σ' a = some p) → Q (.ref W) σ') :
    WFn (cx w mean mg mb) ⟨n + 2, true, sc⟩ a_Wheel [] ρ Q X σ := by
  refine WFn.make t mi_Wheel fun b hb hbn => ?_
  refine WFn.fn1 (p1 := "self") ⟨⟨_, _, _, _, _, _, _, _, _, _, _, _, _, (rfl : (Mine.hd.heap_39 w.params).lookup m_Wheel_init = _), by kernel_rfl, us1 fun _ => rfl⟩, by kernel_rfl⟩ ?_
  with_reducible refine WSs.cons ?_
  with_reducible refine WS.setAttr (by walk_at "u") ?_
  with_reducible refine WE.int ?_
  with_reducible refine WE.localA (by kernel_rfl) (by kernel_rfl) (by walk_at "lk") ?_
  refine WSet.inst' (fs' := [("past", .int 0)]) Hp.self (by kernel_rfl) (by kernel_rfl) (by simp) ?_
  with_reducible refine WSs.cons ?_
  with_reducible refine WS.setAttr (by walk_at "u") ?_
  refine WE.sdict t fun d hd => ?_
  with_reducible refine WE.localA (by kernel_rfl) (by kernel_rfl) (by walk_at "lk") ?_
  have hne : b ≠ d := fun q => by
    have := hd b _ Hp.self
    omega
  refine WSet.inst' (fs' := [("past", .int 0), ("sharers", .ref d)]) (Hp.ne hne Hp.self) (by kernel_rfl) (by kernel_rfl) (by simp) ?_
  with_reducible refine WSs.nil ?_
  refine ⟨rfl, ?_⟩
  refine h b d _ ⟨Hp.self, Hp.ne (Ne.symm hne) Hp.self, (fun x hx => nomatch hx), List.nodup_nil, List.nodup_nil⟩ fun a p e => ?_
  rw [Hp.put_put] at hd
  have e1 : (σ.put b t (.inst a_Wheel [("past", .int 0)])) a = some p := Hp.new hbn e
  have e2 : a ≠ b := fun q => by rw [q, hbn] at e; exact nomatch e
  exact Hp.ne e2 (by rw [Hp.put_put]; exact Hp.new hd.none e1)
theorem need_c {W d t k : Nat} {past : Int} {l : List Shr} {x : Shr} (h : WheelD σ W d t past l) (hk : l[k]? = some x) (hq : Q (.ref x.a) σ) : WFn (cx w mean mg mb) ⟨n + 1, true, sc⟩ m_Wheel_need [.ref W, .str x.name] ρ Q X σ := by
  have hW : σ W = some (t, .inst a_Wheel [("past", .int past), ("sharers", .ref d)]) := h.whl
  have hd := h.dic
  have hg : getK (ents l) x.name = some (.ref x.a) := getK_ents h.nn hk
  refine WFn.fn2 (p1 := "self") (p2 := "name") ⟨⟨_, _, _, _, _, _, _, _, _, _, _, _, _, (rfl : (Mine.hd.heap_39 w.params).lookup m_Wheel_need = _), by kernel_rfl, us2 fun _ _ => rfl⟩, by kernel_rfl⟩ ?_
  with_reducible refine WSs.cons ?_
  with_reducible refine WS.ite ?_
  with_reducible refine WT.bool ?_
  with_reducible refine WA.or ?_
  with_reducible refine WT.not ?_
  with_reducible refine WT.plain (by walk_at "u") ?_
  with_reducible refine WE.call rfl rfl ?_
  with_reducible refine WE.globalA (by kernel_rfl) g_isinstance ?_
  with_reducible refine And.intro (Callee.con rfl) ?_
  with_reducible refine WEs.cons rfl ?_
  with_reducible refine WE.localA (by kernel_rfl) (by kernel_rfl) (by walk_at "lk") ?_
  with_reducible refine WEs.cons rfl ?_
  with_reducible refine WE.globalA (by kernel_rfl) g_str ?_
  with_reducible refine WEs.nil ?_
  with_reducible refine WCall.isinstance (by walk_at "kind") k_str_str ?_
  with_reducible refine WTr.bool ?_
  with_reducible refine if_nt ?_
  with_reducible refine WA.or ?_
  with_reducible refine WT.cmp1 rfl ?_
  with_reducible refine WE.localA (by kernel_rfl) (by kernel_rfl) (by walk_at "lk") ?_
  with_reducible refine WE.attr (by walk_at "u") ?_
  with_reducible refine WE.localA (by kernel_rfl) (by kernel_rfl) (by walk_at "lk") ?_
  with_reducible refine WGet.inst (by walk_at "hp") (by kernel_rfl) (by walk_at "fl") (by with_unfolding_all rfl) ?_
  with_reducible refine WC.notInS_t (by walk_at "hp") (by walk_at "as") ?_
  with_reducible refine WTr.bool ?_
  with_reducible refine if_ff ?_
  with_reducible refine WA.or_nil ?_
  with_reducible refine if_ff ?_
  with_reducible refine WSs.nil ?_
  with_reducible refine WSs.cons ?_
  with_reducible refine WS.ret ?_
  with_reducible refine WE.sub ?_
  with_reducible refine WE.attr (by walk_at "u") ?_
  with_reducible refine WE.localA (by kernel_rfl) (by kernel_rfl) (by walk_at "lk") ?_
  with_reducible refine WGet.inst (by walk_at "hp") (by kernel_rfl) (by walk_at "fl") (by with_unfolding_all rfl) ?_
  with_reducible refine WE.localA (by kernel_rfl) (by kernel_rfl) (by walk_at "lk") ?_
  with_reducible refine WSub.sdict (by walk_at "u") (by walk_at "hp") (by walk_at "as") ?_
  exact hq
theorem enter_c {W d t : Nat} {past : Int} {l : List Shr} {nm : Str} {share : Int} (h : WheelD σ W d t past l) (hn : nm ∉ l.map (·.name)) (h0 : 1 ≤ share) (h1 : share ≤ 12) (hz : l.length ≤ 1000000)
    (hq : ∀ a σ', WheelD σ' W d t past (l ++ [⟨nm, a, share, 0, false⟩]) → Oth t σ σ' → Q .none σ') : WFn (cx w mean mg mb) ⟨n + 3, true, sc⟩ m_Wheel_enter [.ref W, .str nm, .int share] ρ Q X σ := by
  have hW : σ W = some (t, .inst a_Wheel [("past", .int past), ("sharers", .ref d)]) := h.whl
  have hd := h.dic
  have hg : getK (ents l) nm = Option.none := getK_out hn
  refine WFn.fn3 (p1 := "self") (p2 := "name") (p3 := "share") ⟨⟨_, _, _, _, _, _, _, _, _, _, _, _, _, (rfl : (Mine.hd.heap_39 w.params).lookup m_Wheel_enter = _), by kernel_rfl, us3 fun _ _ _ => rfl⟩, by kernel_rfl⟩ ?_
  with_reducible refine WSs.cons ?_
  with_reducible refine WS.ite ?_
  with_reducible refine WT.cmp1 rfl ?_
  with_reducible refine WE.localA (by kernel_rfl) (by kernel_rfl) (by walk_at "lk") ?_
  with_reducible refine WE.attr (by walk_at "u") ?_
  with_reducible refine WE.localA (by kernel_rfl) (by kernel_rfl) (by walk_at "lk") ?_
  with_reducible refine WGet.inst (by walk_at "hp") (by kernel_rfl) (by walk_at "fl") (by with_unfolding_all rfl) ?_
  with_reducible refine WC.inS_f (by walk_at "hp") (by walk_at "as") ?_
  with_reducible refine WTr.bool ?_
  with_reducible refine if_ff ?_
  with_reducible refine WSs.nil ?_
  with_reducible refine WSs.cons ?_
  with_reducible refine WS.expr (by walk_at "u") ?_
  with_reducible refine WE.call rfl rfl ?_
  with_reducible refine WE.globalA (by kernel_rfl) g_step ?_
  with_reducible refine And.intro (Callee.fn fn_step) ?_
  with_reducible refine WEs.cons rfl ?_
  with_reducible refine WE.localA (by kernel_rfl) (by kernel_rfl) (by walk_at "lk") ?_
  with_reducible refine WEs.nil ?_
  refine WCall.of_fn (step_ok h0 h1 ?_)
  with_reducible refine WSs.cons ?_
  with_reducible refine WS.setItem (by walk_at "u") ?_
  with_reducible refine WE.call rfl rfl ?_
  with_reducible refine WE.globalA (by kernel_rfl) g_Sharer ?_
  with_reducible refine And.intro (Callee.cls mi_Sharer) ?_
  with_reducible refine WEs.cons rfl ?_
  with_reducible refine WE.localA (by kernel_rfl) (by kernel_rfl) (by walk_at "lk") ?_
  with_reducible refine WEs.cons rfl ?_
  with_reducible refine WE.int ?_
  with_reducible refine WEs.cons rfl ?_
  with_reducible refine WE.bool ?_
  with_reducible refine WEs.nil ?_
  refine WCall.of_fn (make_sharer t fun b hb => ?_)
  with_reducible refine WE.attr (by walk_at "u") ?_
  with_reducible refine WE.localA (by kernel_rfl) (by kernel_rfl) (by walk_at "lk") ?_
  with_reducible refine WGet.inst (by walk_at "hp") (by kernel_rfl) (by walk_at "fl") (by with_unfolding_all rfl) ?_
  with_reducible refine WE.localA (by kernel_rfl) (by kernel_rfl) (by walk_at "lk") ?_
  refine WPut.sdict (by walk_at "hp") (by simpa [ents] using hz) ?_
  with_reducible refine WSs.nil ?_
  rw [putK_out hn]
  have hw := WheelD.enter h (y := ⟨nm, b, share, 0, false⟩) hb.none hn
  have e : ents (l ++ [⟨nm, b, share, 0, false⟩]) = ents l ++ [(nm, .ref b)] := by simp [ents]
  rw [e] at hw
  exact hq b _ hw (Oth.put (Oth.refl.new hb.none) (Hp.new hb.none hd))
theorem clock_c {W d t k : Nat} {past : Int} {l : List Shr} {x : Shr} (h : WheelD σ W d t past l) (hk : l[k]? = some x) (hq : Q (.int x.clock) σ) : WFn (cx w mean mg mb) ⟨n + 2, true, sc⟩ m_Wheel_clock_of [.ref W, .str x.name] ρ Q X σ := by
  have hW : σ W = some (t, .inst a_Wheel [("past", .int past), ("sharers", .ref d)]) := h.whl
  have hx : σ x.a = some (t, .inst a_Sharer [("share", .int x.share), ("clock", .int x.clock), ("ready", .bool x.ready)]) := h.shr x (List.mem_of_getElem? hk)
  refine WFn.fn2 (p1 := "self") (p2 := "name") ⟨⟨_, _, _, _, _, _, _, _, _, _, _, _, _, (rfl : (Mine.hd.heap_39 w.params).lookup m_Wheel_clock_of = _), by kernel_rfl, us2 fun _ _ => rfl⟩, by kernel_rfl⟩ ?_
  with_reducible refine WSs.cons ?_
  with_reducible refine WS.ret ?_
  with_reducible refine WE.attr (by walk_at "u") ?_
  with_reducible refine WE.method (by walk_at "u") rfl rfl rfl ?_
  with_reducible refine WE.localA (by kernel_rfl) (by kernel_rfl) (by walk_at "lk") ?_
  with_reducible refine WM.inst (by walk_at "hp") ms_Wheel_need (by kernel_rfl) ?_
  with_reducible refine And.intro (Callee.meth ms_Wheel_need) ?_
  with_reducible refine WEs.cons rfl ?_
  with_reducible refine WE.localA (by kernel_rfl) (by kernel_rfl) (by walk_at "lk") ?_
  with_reducible refine WEs.nil ?_
  refine WCall.of_fn (need_c h hk ?_)
  with_reducible refine WGet.inst (by walk_at "hp") (by kernel_rfl) (by walk_at "fl") (by with_unfolding_all rfl) ?_
  exact hq
theorem ready_c {W d t k : Nat} {past : Int} {l : List Shr} {x : Shr} (h : WheelD σ W d t past l) (hk : l[k]? = some x) (hq : Q (.bool x.ready) σ) : WFn (cx w mean mg mb) ⟨n + 2, true, sc⟩ m_Wheel_is_ready [.ref W, .str x.name] ρ Q X σ := by
  have hW : σ W = some (t, .inst a_Wheel [("past", .int past), ("sharers", .ref d)]) := h.whl
  have hx : σ x.a = some (t, .inst a_Sharer [("share", .int x.share), ("clock", .int x.clock), ("ready", .bool x.ready)]) := h.shr x (List.mem_of_getElem? hk)
  refine WFn.fn2 (p1 := "self") (p2 := "name") ⟨⟨_, _, _, _, _, _, _, _, _, _, _, _, _, (rfl : (Mine.hd.heap_39 w.params).lookup m_Wheel_is_ready = _), by kernel_rfl, us2 fun _ _ => rfl⟩, by kernel_rfl⟩ ?_
  with_reducible refine WSs.cons ?_
  with_reducible refine WS.ret ?_
  with_reducible refine WE.attr (by walk_at "u") ?_
  with_reducible refine WE.method (by walk_at "u") rfl rfl rfl ?_
  with_reducible refine WE.localA (by kernel_rfl) (by kernel_rfl) (by walk_at "lk") ?_
  with_reducible refine WM.inst (by walk_at "hp") ms_Wheel_need (by kernel_rfl) ?_
  with_reducible refine And.intro (Callee.meth ms_Wheel_need) ?_
  with_reducible refine WEs.cons rfl ?_
  with_reducible refine WE.localA (by kernel_rfl) (by kernel_rfl) (by walk_at "lk") ?_
  with_reducible refine WEs.nil ?_
  refine WCall.of_fn (need_c h hk ?_)
  with_reducible refine WGet.inst (by walk_at "hp") (by kernel_rfl) (by walk_at "fl") (by with_unfolding_all rfl) ?_
  exact hq
def woken (past : Int) (x : Shr) : Shr := if x.ready then x else { x with clock := (if past > x.clock then past else x.clock), ready := true }
theorem woken_ready {past : Int} {x : Shr} : (woken past x).ready = true := by
  unfold woken
  split
  · assumption
  · rfl
theorem wake_c {W d t k : Nat} {past : Int} {l : List Shr} {x : Shr} (h : WheelD σ W d t past l) (hk : l[k]? = some x) (hq : ∀ σ', WheelD σ' W d t past (l.set k (woken past x)) → Oth t σ σ' → Q (.bool (!x.ready)) σ') :
    WFn (cx w mean mg mb) ⟨n + 2, true, sc⟩ m_Wheel_wake [.ref W, .str x.name] ρ Q X σ := by
  have hW : σ W = some (t, .inst a_Wheel [("past", .int past), ("sharers", .ref d)]) := h.whl
  have hx : σ x.a = some (t, .inst a_Sharer [("share", .int x.share), ("clock", .int x.clock), ("ready", .bool x.ready)]) := h.shr x (List.mem_of_getElem? hk)
  refine WFn.fn2 (p1 := "self") (p2 := "name") ⟨⟨_, _, _, _, _, _, _, _, _, _, _, _, _, (rfl : (Mine.hd.heap_39 w.params).lookup m_Wheel_wake = _), by kernel_rfl, us2 fun _ _ => rfl⟩, by kernel_rfl⟩ ?_
  with_reducible refine WSs.cons ?_
  with_reducible refine WS.assign (by walk_at "u") ?_
  with_reducible refine WE.method (by walk_at "u") rfl rfl rfl ?_
  with_reducible refine WE.localA (by kernel_rfl) (by kernel_rfl) (by walk_at "lk") ?_
  with_reducible refine WM.inst (by walk_at "hp") ms_Wheel_need (by kernel_rfl) ?_
  with_reducible refine And.intro (Callee.meth ms_Wheel_need) ?_
  with_reducible refine WEs.cons rfl ?_
  with_reducible refine WE.localA (by kernel_rfl) (by kernel_rfl) (by walk_at "lk") ?_
  with_reducible refine WEs.nil ?_
  refine WCall.of_fn (need_c h hk ?_)
  with_reducible refine WSt.localA (by kernel_rfl) ?_
  with_reducible refine WSs.cons ?_
  with_reducible refine WS.ite ?_
  with_reducible refine WT.plain (by walk_at "u") ?_
  with_reducible refine WE.attr (by walk_at "u") ?_
  with_reducible refine WE.localA (by kernel_rfl) (by kernel_rfl) (by walk_at "lk") ?_
  with_reducible refine WGet.inst (by walk_at "hp") (by kernel_rfl) (by walk_at "fl") (by with_unfolding_all rfl) ?_
  with_reducible refine WTr.bool ?_
  cases hr : x.ready
  · rw [hr] at hx hq
    with_reducible refine if_ff ?_
    with_reducible refine WSs.nil ?_
    with_reducible refine WSs.cons ?_
    with_reducible refine WS.setAttr (by walk_at "u") ?_
    with_reducible refine WE.bool ?_
    with_reducible refine WE.localA (by kernel_rfl) (by kernel_rfl) (by walk_at "lk") ?_
    refine WSet.inst' (fs' := [("share", .int x.share), ("clock", .int x.clock), ("ready", .bool true)]) hx (by kernel_rfl) (by kernel_rfl) (by simp) ?_
    have h1 : WheelD (σ.put x.a t (.inst a_Sharer [("share", .int x.share), ("clock", .int x.clock), ("ready", .bool true)])) W d t past (l.set k { x with ready := true }) := h.upd (y := { x with ready := true }) hk rfl rfl
    have hW1 : (σ.put x.a t (.inst a_Sharer [("share", .int x.share), ("clock", .int x.clock), ("ready", .bool true)])) W = some (t, .inst a_Wheel [("past", .int past), ("sharers", .ref d)]) := h1.whl
    with_reducible refine WSs.cons ?_
    with_reducible refine WS.setAttr (by walk_at "u") ?_
    with_reducible refine WE.call rfl rfl ?_
    with_reducible refine WE.globalA (by kernel_rfl) g_max ?_
    with_reducible refine And.intro (Callee.con rfl) ?_
    with_reducible refine WEs.cons rfl ?_
    with_reducible refine WE.attr (by walk_at "u") ?_
    with_reducible refine WE.localA (by kernel_rfl) (by kernel_rfl) (by walk_at "lk") ?_
    with_reducible refine WGet.inst (by walk_at "hp") (by kernel_rfl) (by walk_at "fl") (by with_unfolding_all rfl) ?_
    with_reducible refine WEs.cons rfl ?_
    with_reducible refine WE.attr (by walk_at "u") ?_
    with_reducible refine WE.localA (by kernel_rfl) (by kernel_rfl) (by walk_at "lk") ?_
    with_reducible refine WGet.inst (by walk_at "hp") (by kernel_rfl) (by walk_at "fl") (by with_unfolding_all rfl) ?_
    with_reducible refine WEs.nil ?_
    refine WCall.max2 rfl ?_
    with_reducible refine WE.localA (by kernel_rfl) (by kernel_rfl) (by walk_at "lk") ?_
    refine WSet.inst' (fs' := [("share", .int x.share), ("clock", .int (if past > x.clock then past else x.clock)), ("ready", .bool true)]) Hp.self (by kernel_rfl) (by kernel_rfl) (by simp) ?_
    with_reducible refine WSs.cons ?_
    with_reducible refine WS.ret ?_
    with_reducible refine WE.bool ?_
    rw [Hp.put_put]
    have h2 := h.upd (y := woken past x) hk (by simp [woken, hr]) (by simp [woken, hr])
    have e : (woken past x).obj = .inst a_Sharer [("share", .int x.share), ("clock", .int (if past > x.clock then past else x.clock)), ("ready", .bool true)] := by simp [woken, hr, Shr.obj]
    rw [e] at h2
    exact hq _ h2 (Oth.put Oth.refl hx)
  · rw [hr] at hx hq
    with_reducible refine if_tt ?_
    with_reducible refine WSs.cons ?_
    with_reducible refine WS.ret ?_
    with_reducible refine WE.bool ?_
    have e : woken past x = x := by simp [woken, hr]
    rw [e, set_same hk] at hq
    exact hq _ h Oth.refl
theorem rest_c {W d t k : Nat} {past : Int} {l : List Shr} {x : Shr} (h : WheelD σ W d t past l) (hk : l[k]? = some x) (hq : ∀ σ', WheelD σ' W d t past (l.set k { x with ready := false }) → Oth t σ σ' → Q (.bool x.ready) σ') :
    WFn (cx w mean mg mb) ⟨n + 2, true, sc⟩ m_Wheel_rest [.ref W, .str x.name] ρ Q X σ := by
  have hW : σ W = some (t, .inst a_Wheel [("past", .int past), ("sharers", .ref d)]) := h.whl
  have hx : σ x.a = some (t, .inst a_Sharer [("share", .int x.share), ("clock", .int x.clock), ("ready", .bool x.ready)]) := h.shr x (List.mem_of_getElem? hk)
  refine WFn.fn2 (p1 := "self") (p2 := "name") ⟨⟨_, _, _, _, _, _, _, _, _, _, _, _, _, (rfl : (Mine.hd.heap_39 w.params).lookup m_Wheel_rest = _), by kernel_rfl, us2 fun _ _ => rfl⟩, by kernel_rfl⟩ ?_
  with_reducible refine WSs.cons ?_
  with_reducible refine WS.assign (by walk_at "u") ?_
  with_reducible refine WE.method (by walk_at "u") rfl rfl rfl ?_
  with_reducible refine WE.localA (by kernel_rfl) (by kernel_rfl) (by walk_at "lk") ?_
  with_reducible refine WM.inst (by walk_at "hp") ms_Wheel_need (by kernel_rfl) ?_
  with_reducible refine And.intro (Callee.meth ms_Wheel_need) ?_
  with_reducible refine WEs.cons rfl ?_
  with_reducible refine WE.localA (by kernel_rfl) (by kernel_rfl) (by walk_at "lk") ?_
  with_reducible refine WEs.nil ?_
  refine WCall.of_fn (need_c h hk ?_)
  with_reducible refine WSt.localA (by kernel_rfl) ?_
  with_reducible refine WSs.cons ?_
  with_reducible refine WS.ite ?_
  with_reducible refine WT.not ?_
  with_reducible refine WT.plain (by walk_at "u") ?_
  with_reducible refine WE.attr (by walk_at "u") ?_
  with_reducible refine WE.localA (by kernel_rfl) (by kernel_rfl) (by walk_at "lk") ?_
  with_reducible refine WGet.inst (by walk_at "hp") (by kernel_rfl) (by walk_at "fl") (by with_unfolding_all rfl) ?_
  with_reducible refine WTr.bool ?_
  cases hr : x.ready
  · rw [hr] at hx hq
    with_reducible refine if_nf ?_
    with_reducible refine WSs.cons ?_
    with_reducible refine WS.ret ?_
    with_reducible refine WE.bool ?_
    have e : ({ x with ready := false } : Shr) = x := by cases x; simp at hr; subst hr; rfl
    rw [e, set_same hk] at hq
    exact hq _ h Oth.refl
  · rw [hr] at hx hq
    with_reducible refine if_nt ?_
    with_reducible refine WSs.nil ?_
    with_reducible refine WSs.cons ?_
    with_reducible refine WS.setAttr (by walk_at "u") ?_
    with_reducible refine WE.bool ?_
    with_reducible refine WE.localA (by kernel_rfl) (by kernel_rfl) (by walk_at "lk") ?_
    refine WSet.inst' (fs' := [("share", .int x.share), ("clock", .int x.clock), ("ready", .bool false)]) hx (by kernel_rfl) (by kernel_rfl) (by simp) ?_
    with_reducible refine WSs.cons ?_
    with_reducible refine WS.ret ?_
    with_reducible refine WE.bool ?_
    exact hq _ (h.upd (y := { x with ready := false }) hk rfl rfl) (Oth.put Oth.refl hx)
theorem whose_c {W d t : Nat} {past : Int} {l : List Shr} (h : WheelD σ W d t past l) (hz : l.length ≤ 1000000) (hq : ∀ b, Fresh σ b → Q (whoV (pick l Option.none)) (σ.put b t (.list ((ents l).map fun p => .str p.1)))) :
    WFn (cx w mean mg mb) ⟨n + 1, true, sc⟩ m_Wheel_whose [.ref W] ρ Q X σ := by
  have hW : σ W = some (t, .inst a_Wheel [("past", .int past), ("sharers", .ref d)]) := h.whl
  have hd := h.dic
  refine WFn.fn1 (p1 := "self") ⟨⟨_, _, _, _, _, _, _, _, _, _, _, _, _, (rfl : (Mine.hd.heap_39 w.params).lookup m_Wheel_whose = _), by kernel_rfl, us1 fun _ => rfl⟩, by kernel_rfl⟩ ?_
  with_reducible refine WSs.cons ?_
  with_reducible refine WS.assign (by walk_at "u") ?_
  with_reducible refine WE.none ?_
  with_reducible refine WSt.localA (by kernel_rfl) ?_
  with_reducible refine WSs.cons ?_
  with_reducible refine WS.for rfl (by walk_at "u") ?_
  with_reducible refine WE.call rfl rfl ?_
  with_reducible refine WE.globalA (by kernel_rfl) g_list ?_
  with_reducible refine And.intro (Callee.con rfl) ?_
  with_reducible refine WEs.cons rfl ?_
  with_reducible refine WE.attr (by walk_at "u") ?_
  with_reducible refine WE.localA (by kernel_rfl) (by kernel_rfl) (by walk_at "lk") ?_
  with_reducible refine WGet.inst (by walk_at "hp") (by kernel_rfl) (by walk_at "fl") (by with_unfolding_all rfl) ?_
  with_reducible refine WEs.nil ?_
  refine WCall.listKeys t rfl hd (by simpa [ents] using hz) fun b hb => ?_
  have hW' : (σ.put b t (.list ((ents l).map fun p => .str p.1))) W = _ := Hp.new hb.none hW
  have hd' : (σ.put b t (.list ((ents l).map fun p => .str p.1))) d = _ := Hp.new hb.none hd
  have hs' : ∀ x ∈ l, (σ.put b t (.list ((ents l).map fun p => .str p.1))) x.a = some (t, .inst a_Sharer [("share", .int x.share), ("clock", .int x.clock), ("ready", .bool x.ready)]) := fun x hx => Hp.new hb.none (h.shr x hx)
  have hb' : (σ.put b t (.list ((ents l).map fun p => .str p.1))) b = _ := Hp.self
  have hq' := hq b hb
  refine ⟨_, _, Iterable.list (ListAt.own hb'), ?_⟩
  generalize σ.put b t (.list ((ents l).map fun p => .str p.1)) = σ1 at hW' hd' hs' hb' hq' ⊢
  refine WFor.byIdx (fun j ρ' σ' => σ' = σ1 ∧ ρ' "self" = some (.ref W) ∧ ∃ f, ρ' "found" = some (whoV f) ∧ (∀ y, f = some y → ∃ k : Nat, l[k]? = some y) ∧ pick (l.drop j) f = pick l Option.none) ?_ ?_ ?_
  · exact ⟨rfl, by walk_at "lk", Option.none, by (change _ = some MV.none); walk_at "lk", (fun y hy => nomatch hy), rfl⟩
  · rintro j v ρ' σ' hv ⟨es, hself, f, hf, hfm, hp⟩
    subst es
    have hx : ∃ x, l[j]? = some x ∧ v = .str x.name := by
      simp only [ents, List.map_map, List.getElem?_map] at hv
      cases q : l[j]? with
      | none => rw [q] at hv; exact nomatch hv
      | some x => rw [q] at hv; exact ⟨x, rfl, (Option.some.inj hv).symm⟩
    obtain ⟨x, hx, rfl⟩ := hx
    have hdr : l.drop j = x :: l.drop (j + 1) := by
      obtain ⟨hlt, e⟩ := List.getElem?_eq_some_iff.mp hx
      rw [List.drop_eq_getElem_cons hlt, e]
    rw [hdr] at hp
    have hxo := hs' x (List.mem_of_getElem? hx)
    have hg : getK (ents l) x.name = some (.ref x.a) := getK_ents h.nn hx
    refine ⟨ListAt.own hb', ?_⟩
    cases hr : x.ready
    · rw [hr] at hxo
      simp only [pick, hr, Bool.false_and] at hp
      with_reducible refine WSt.localA (by kernel_rfl) ?_
      with_reducible refine WSs.cons ?_
      with_reducible refine WS.assign (by walk_at "u") ?_
      with_reducible refine WE.sub ?_
      with_reducible refine WE.attr (by walk_at "u") ?_
      with_reducible refine WE.localA (by kernel_rfl) (by kernel_rfl) (by walk_at "lk") ?_
      with_reducible refine WGet.inst (by walk_at "hp") (by kernel_rfl) (by walk_at "fl") (by with_unfolding_all rfl) ?_
      with_reducible refine WE.localA (by kernel_rfl) (by kernel_rfl) (by walk_at "lk") ?_
      with_reducible refine WSub.sdict (by walk_at "u") (by walk_at "hp") (by walk_at "as") ?_
      with_reducible refine WSt.localA (by kernel_rfl) ?_
      with_reducible refine WSs.cons ?_
      with_reducible refine WS.ite ?_
      with_reducible refine WT.bool ?_
      with_reducible refine WA.and ?_
      with_reducible refine WT.plain (by walk_at "u") ?_
      with_reducible refine WE.attr (by walk_at "u") ?_
      with_reducible refine WE.localA (by kernel_rfl) (by kernel_rfl) (by walk_at "lk") ?_
      with_reducible refine WGet.inst (by walk_at "hp") (by kernel_rfl) (by walk_at "fl") (by with_unfolding_all rfl) ?_
      with_reducible refine WTr.bool ?_
      with_reducible refine if_ff ?_
      with_reducible refine if_ff ?_
      with_reducible refine WSs.nil ?_
      with_reducible refine WSs.nil ?_
      exact ⟨rfl, by walk_at "lk", f, by walk_at "lk", hfm, hp⟩
    · rw [hr] at hxo
      cases f with
      | none =>
        have hf' : ρ' "found" = some .none := hf
        clear hf
        simp only [pick, hr, better, Bool.and_self] at hp
        with_reducible refine WSt.localA (by kernel_rfl) ?_
        with_reducible refine WSs.cons ?_
        with_reducible refine WS.assign (by walk_at "u") ?_
        with_reducible refine WE.sub ?_
        with_reducible refine WE.attr (by walk_at "u") ?_
        with_reducible refine WE.localA (by kernel_rfl) (by kernel_rfl) (by walk_at "lk") ?_
        with_reducible refine WGet.inst (by walk_at "hp") (by kernel_rfl) (by walk_at "fl") (by with_unfolding_all rfl) ?_
        with_reducible refine WE.localA (by kernel_rfl) (by kernel_rfl) (by walk_at "lk") ?_
        with_reducible refine WSub.sdict (by walk_at "u") (by walk_at "hp") (by walk_at "as") ?_
        with_reducible refine WSt.localA (by kernel_rfl) ?_
        with_reducible refine WSs.cons ?_
        with_reducible refine WS.ite ?_
        with_reducible refine WT.bool ?_
        with_reducible refine WA.and ?_
        with_reducible refine WT.plain (by walk_at "u") ?_
        with_reducible refine WE.attr (by walk_at "u") ?_
        with_reducible refine WE.localA (by kernel_rfl) (by kernel_rfl) (by walk_at "lk") ?_
        with_reducible refine WGet.inst (by walk_at "hp") (by kernel_rfl) (by walk_at "fl") (by with_unfolding_all rfl) ?_
        with_reducible refine WTr.bool ?_
        with_reducible refine if_tt ?_
        with_reducible refine WA.and ?_
        with_reducible refine WT.bool ?_
        with_reducible refine WA.or ?_
        with_reducible refine WT.cmp1 rfl ?_
        with_reducible refine WE.localA (by kernel_rfl) (by kernel_rfl) (by walk_at "lk") ?_
        with_reducible refine WE.none ?_
        with_reducible refine WC.isNN ?_
        with_reducible refine WTr.bool ?_
        with_reducible refine if_tt ?_
        with_reducible refine if_tt ?_
        with_reducible refine WA.and_nil ?_
        with_reducible refine if_tt ?_
        with_reducible refine WSs.cons ?_
        with_reducible refine WS.assign (by walk_at "u") ?_
        with_reducible refine WE.localA (by kernel_rfl) (by kernel_rfl) (by walk_at "lk") ?_
        with_reducible refine WSt.localA (by kernel_rfl) ?_
        with_reducible refine WSs.nil ?_
        with_reducible refine WSs.nil ?_
        exact ⟨rfl, by walk_at "lk", some x, by (change _ = some (MV.str x.name)); walk_at "lk", fun y hy => by cases hy; exact ⟨j, hx⟩, hp⟩
      | some y =>
        obtain ⟨k, hk⟩ := hfm y rfl
        have hf' : ρ' "found" = some (.str y.name) := hf
        clear hf
        have hyo := hs' y (List.mem_of_getElem? hk)
        have hgy : getK (ents l) y.name = some (.ref y.a) := getK_ents h.nn hk
        simp only [pick, hr, better, Bool.true_and] at hp
        by_cases hlt : x.clock < y.clock
        · rw [decide_eq_true hlt] at hp
          with_reducible refine WSt.localA (by kernel_rfl) ?_
          with_reducible refine WSs.cons ?_
          with_reducible refine WS.assign (by walk_at "u") ?_
          with_reducible refine WE.sub ?_
          with_reducible refine WE.attr (by walk_at "u") ?_
          with_reducible refine WE.localA (by kernel_rfl) (by kernel_rfl) (by walk_at "lk") ?_
          with_reducible refine WGet.inst (by walk_at "hp") (by kernel_rfl) (by walk_at "fl") (by with_unfolding_all rfl) ?_
          with_reducible refine WE.localA (by kernel_rfl) (by kernel_rfl) (by walk_at "lk") ?_
          with_reducible refine WSub.sdict (by walk_at "u") (by walk_at "hp") (by walk_at "as") ?_
          with_reducible refine WSt.localA (by kernel_rfl) ?_
          with_reducible refine WSs.cons ?_
          with_reducible refine WS.ite ?_
          with_reducible refine WT.bool ?_
          with_reducible refine WA.and ?_
          with_reducible refine WT.plain (by walk_at "u") ?_
          with_reducible refine WE.attr (by walk_at "u") ?_
          with_reducible refine WE.localA (by kernel_rfl) (by kernel_rfl) (by walk_at "lk") ?_
          with_reducible refine WGet.inst (by walk_at "hp") (by kernel_rfl) (by walk_at "fl") (by with_unfolding_all rfl) ?_
          with_reducible refine WTr.bool ?_
          with_reducible refine if_tt ?_
          with_reducible refine WA.and ?_
          with_reducible refine WT.bool ?_
          with_reducible refine WA.or ?_
          with_reducible refine WT.cmp1 rfl ?_
          with_reducible refine WE.localA (by kernel_rfl) (by kernel_rfl) (by walk_at "lk") ?_
          with_reducible refine WE.none ?_
          with_reducible refine WC.isNS ?_
          with_reducible refine WTr.bool ?_
          with_reducible refine if_ff ?_
          with_reducible refine WA.or ?_
          with_reducible refine WT.cmp1 rfl ?_
          with_reducible refine WE.attr (by walk_at "u") ?_
          with_reducible refine WE.localA (by kernel_rfl) (by kernel_rfl) (by walk_at "lk") ?_
          with_reducible refine WGet.inst (by walk_at "hp") (by kernel_rfl) (by walk_at "fl") (by with_unfolding_all rfl) ?_
          with_reducible refine WE.attr (by walk_at "u") ?_
          with_reducible refine WE.sub ?_
          with_reducible refine WE.attr (by walk_at "u") ?_
          with_reducible refine WE.localA (by kernel_rfl) (by kernel_rfl) (by walk_at "lk") ?_
          with_reducible refine WGet.inst (by walk_at "hp") (by kernel_rfl) (by walk_at "fl") (by with_unfolding_all rfl) ?_
          with_reducible refine WE.localA (by kernel_rfl) (by kernel_rfl) (by walk_at "lk") ?_
          with_reducible refine WSub.sdict (by walk_at "u") (by walk_at "hp") (by walk_at "as") ?_
          with_reducible refine WGet.inst (by walk_at "hp") (by kernel_rfl) (by walk_at "fl") (by with_unfolding_all rfl) ?_
          with_reducible refine WC.lt ?_
          with_reducible refine WTr.bool ?_
          with_reducible refine if_dt (by walk_at "as") ?_
          with_reducible refine if_tt ?_
          with_reducible refine WA.and_nil ?_
          with_reducible refine if_tt ?_
          with_reducible refine WSs.cons ?_
          with_reducible refine WS.assign (by walk_at "u") ?_
          with_reducible refine WE.localA (by kernel_rfl) (by kernel_rfl) (by walk_at "lk") ?_
          with_reducible refine WSt.localA (by kernel_rfl) ?_
          with_reducible refine WSs.nil ?_
          with_reducible refine WSs.nil ?_
          exact ⟨rfl, by walk_at "lk", some x, by (change _ = some (MV.str x.name)); walk_at "lk", fun y hy => by cases hy; exact ⟨j, hx⟩, hp⟩
        · rw [decide_eq_false hlt] at hp
          with_reducible refine WSt.localA (by kernel_rfl) ?_
          with_reducible refine WSs.cons ?_
          with_reducible refine WS.assign (by walk_at "u") ?_
          with_reducible refine WE.sub ?_
          with_reducible refine WE.attr (by walk_at "u") ?_
          with_reducible refine WE.localA (by kernel_rfl) (by kernel_rfl) (by walk_at "lk") ?_
          with_reducible refine WGet.inst (by walk_at "hp") (by kernel_rfl) (by walk_at "fl") (by with_unfolding_all rfl) ?_
          with_reducible refine WE.localA (by kernel_rfl) (by kernel_rfl) (by walk_at "lk") ?_
          with_reducible refine WSub.sdict (by walk_at "u") (by walk_at "hp") (by walk_at "as") ?_
          with_reducible refine WSt.localA (by kernel_rfl) ?_
          with_reducible refine WSs.cons ?_
          with_reducible refine WS.ite ?_
          with_reducible refine WT.bool ?_
          with_reducible refine WA.and ?_
          with_reducible refine WT.plain (by walk_at "u") ?_
          with_reducible refine WE.attr (by walk_at "u") ?_
          with_reducible refine WE.localA (by kernel_rfl) (by kernel_rfl) (by walk_at "lk") ?_
          with_reducible refine WGet.inst (by walk_at "hp") (by kernel_rfl) (by walk_at "fl") (by with_unfolding_all rfl) ?_
          with_reducible refine WTr.bool ?_
          with_reducible refine if_tt ?_
          with_reducible refine WA.and ?_
          with_reducible refine WT.bool ?_
          with_reducible refine WA.or ?_
          with_reducible refine WT.cmp1 rfl ?_
          with_reducible refine WE.localA (by kernel_rfl) (by kernel_rfl) (by walk_at "lk") ?_
          with_reducible refine WE.none ?_
          with_reducible refine WC.isNS ?_
          with_reducible refine WTr.bool ?_
          with_reducible refine if_ff ?_
          with_reducible refine WA.or ?_
          with_reducible refine WT.cmp1 rfl ?_
          with_reducible refine WE.attr (by walk_at "u") ?_
          with_reducible refine WE.localA (by kernel_rfl) (by kernel_rfl) (by walk_at "lk") ?_
          with_reducible refine WGet.inst (by walk_at "hp") (by kernel_rfl) (by walk_at "fl") (by with_unfolding_all rfl) ?_
          with_reducible refine WE.attr (by walk_at "u") ?_
          with_reducible refine WE.sub ?_
          with_reducible refine WE.attr (by walk_at "u") ?_
          with_reducible refine WE.localA (by kernel_rfl) (by kernel_rfl) (by walk_at "lk") ?_
          with_reducible refine WGet.inst (by walk_at "hp") (by kernel_rfl) (by walk_at "fl") (by with_unfolding_all rfl) ?_
          with_reducible refine WE.localA (by kernel_rfl) (by kernel_rfl) (by walk_at "lk") ?_
          with_reducible refine WSub.sdict (by walk_at "u") (by walk_at "hp") (by walk_at "as") ?_
          with_reducible refine WGet.inst (by walk_at "hp") (by kernel_rfl) (by walk_at "fl") (by with_unfolding_all rfl) ?_
          with_reducible refine WC.lt ?_
          with_reducible refine WTr.bool ?_
          with_reducible refine if_df (by walk_at "as") ?_
          with_reducible refine WA.or_nil ?_
          with_reducible refine if_ff ?_
          with_reducible refine if_ff ?_
          with_reducible refine WSs.nil ?_
          with_reducible refine WSs.nil ?_
          exact ⟨rfl, by walk_at "lk", some y, by (change _ = some (MV.str y.name)); walk_at "lk", hfm, hp⟩
  · rintro ρ' σ' ⟨es, hself, f, hf, hfm, hp⟩
    subst es
    refine ⟨ListAt.own hb', ?_⟩
    have e : pick l Option.none = f := by
      rw [← hp, List.drop_eq_nil_of_le (by simp [ents])]
      rfl
    rw [e] at hq'
    with_reducible refine WSs.cons ?_
    with_reducible refine WS.ret ?_
    with_reducible refine WE.localA (by kernel_rfl) (by kernel_rfl) (by walk_at "lk") ?_
    exact hq'
theorem turn_c {W d t k : Nat} {past : Int} {l : List Shr} {x : Shr} (h : WheelD σ W d t past l) (hz : l.length ≤ 1000000) (hk : l[k]? = some x) (hp : pick l Option.none = some x) (h0 : 1 ≤ x.share) (h1 : x.share ≤ 12)
    (hq : ∀ σ', WheelD σ' W d t x.clock (l.set k (dealt x)) → Oth t σ σ' → Q (.str x.name) σ') : WFn (cx w mean mg mb) ⟨n + 3, true, sc⟩ m_Wheel_turn [.ref W] ρ Q X σ := by
  have hW : σ W = some (t, .inst a_Wheel [("past", .int past), ("sharers", .ref d)]) := h.whl
  refine WFn.fn1 (p1 := "self") ⟨⟨_, _, _, _, _, _, _, _, _, _, _, _, _, (rfl : (Mine.hd.heap_39 w.params).lookup m_Wheel_turn = _), by kernel_rfl, us1 fun _ => rfl⟩, by kernel_rfl⟩ ?_
  with_reducible refine WSs.cons ?_
  with_reducible refine WS.assign (by walk_at "u") ?_
  with_reducible refine WE.method (by walk_at "u") rfl rfl rfl ?_
  with_reducible refine WE.localA (by kernel_rfl) (by kernel_rfl) (by walk_at "lk") ?_
  with_reducible refine WM.inst (by walk_at "hp") ms_Wheel_whose (by kernel_rfl) ?_
  with_reducible refine And.intro (Callee.meth ms_Wheel_whose) ?_
  with_reducible refine WEs.nil ?_
  refine WCall.of_fn (whose_c h hz fun b hb => ?_)
  have h' : WheelD (σ.put b t (.list ((ents l).map fun p => .str p.1))) W d t past l := h.keep (Kpt.new hb.none)
  have ho : Oth t σ (σ.put b t (.list ((ents l).map fun p => .str p.1))) := Oth.refl.new hb.none
  generalize σ.put b t (.list ((ents l).map fun p => .str p.1)) = σ1 at h' ho ⊢
  rw [hp]
  show WSt _ _ _ (.str x.name) _ _ _ _
  have hW' : σ1 W = some (t, .inst a_Wheel [("past", .int past), ("sharers", .ref d)]) := h'.whl
  have hd' := h'.dic
  have hxo : σ1 x.a = some (t, .inst a_Sharer [("share", .int x.share), ("clock", .int x.clock), ("ready", .bool x.ready)]) := h'.shr x (List.mem_of_getElem? hk)
  have hg : getK (ents l) x.name = some (.ref x.a) := getK_ents h.nn hk
  have hnn : (MV.str x.name).isNone = false := rfl
  with_reducible refine WSt.localA (by kernel_rfl) ?_
  with_reducible refine WSs.cons ?_
  with_reducible refine WS.ite ?_
  with_reducible refine WT.cmp1 rfl ?_
  with_reducible refine WE.localA (by kernel_rfl) (by kernel_rfl) (by walk_at "lk") ?_
  with_reducible refine WE.none ?_
  with_reducible refine WC.isNS ?_
  with_reducible refine WTr.bool ?_
  with_reducible refine if_ff ?_
  with_reducible refine WSs.nil ?_
  with_reducible refine WSs.cons ?_
  with_reducible refine WS.assign (by walk_at "u") ?_
  with_reducible refine WE.sub ?_
  with_reducible refine WE.attr (by walk_at "u") ?_
  with_reducible refine WE.localA (by kernel_rfl) (by kernel_rfl) (by walk_at "lk") ?_
  with_reducible refine WGet.inst (by walk_at "hp") (by kernel_rfl) (by walk_at "fl") (by with_unfolding_all rfl) ?_
  with_reducible refine WE.localA (by kernel_rfl) (by kernel_rfl) (by walk_at "lk") ?_
  with_reducible refine WSub.sdict (by walk_at "u") (by walk_at "hp") (by walk_at "as") ?_
  with_reducible refine WSt.localA (by kernel_rfl) ?_
  with_reducible refine WSs.cons ?_
  with_reducible refine WS.setAttr (by walk_at "u") ?_
  with_reducible refine WE.attr (by walk_at "u") ?_
  with_reducible refine WE.localA (by kernel_rfl) (by kernel_rfl) (by walk_at "lk") ?_
  with_reducible refine WGet.inst (by walk_at "hp") (by kernel_rfl) (by walk_at "fl") (by with_unfolding_all rfl) ?_
  with_reducible refine WE.localA (by kernel_rfl) (by kernel_rfl) (by walk_at "lk") ?_
  refine WSet.inst' (fs' := [("past", .int x.clock), ("sharers", .ref d)]) hW' (by kernel_rfl) (by kernel_rfl) (by simp) ?_
  have h2 : WheelD (σ1.put W t (.inst a_Wheel [("past", .int x.clock), ("sharers", .ref d)])) W d t x.clock l := h'.past
  have ho2 : Oth t σ (σ1.put W t (.inst a_Wheel [("past", .int x.clock), ("sharers", .ref d)])) := Oth.put ho hW'
  generalize σ1.put W t (.inst a_Wheel [("past", .int x.clock), ("sharers", .ref d)]) = σ2 at h2 ho2 ⊢
  have hxo2 : σ2 x.a = some (t, .inst a_Sharer [("share", .int x.share), ("clock", .int x.clock), ("ready", .bool x.ready)]) := h2.shr x (List.mem_of_getElem? hk)
  with_reducible refine WSs.cons ?_
  with_reducible refine WS.augAttr ?_
  with_reducible refine WE.localA (by kernel_rfl) (by kernel_rfl) (by walk_at "lk") ?_
  with_reducible refine WGet.inst (by walk_at "hp") (by kernel_rfl) (by walk_at "fl") (by with_unfolding_all rfl) ?_
  with_reducible refine WE.call rfl rfl ?_
  with_reducible refine WE.globalA (by kernel_rfl) g_step ?_
  with_reducible refine And.intro (Callee.fn fn_step) ?_
  with_reducible refine WEs.cons rfl ?_
  with_reducible refine WE.attr (by walk_at "u") ?_
  with_reducible refine WE.localA (by kernel_rfl) (by kernel_rfl) (by walk_at "lk") ?_
  with_reducible refine WGet.inst (by walk_at "hp") (by kernel_rfl) (by walk_at "fl") (by with_unfolding_all rfl) ?_
  with_reducible refine WEs.nil ?_
  refine WCall.of_fn (step_ok h0 h1 ?_)
  with_reducible refine WI.add ?_
  refine WSet.inst' (fs' := [("share", .int x.share), ("clock", .int (x.clock + (27720 : Int).fdiv x.share)), ("ready", .bool x.ready)]) hxo2 (by kernel_rfl) (by kernel_rfl) (by simp) ?_
  with_reducible refine WSs.cons ?_
  with_reducible refine WS.ret ?_
  with_reducible refine WE.localA (by kernel_rfl) (by kernel_rfl) (by walk_at "lk") ?_
  exact hq _ (h2.upd (y := dealt x) hk rfl rfl) (Oth.put ho2 hxo2)
theorem share_c {W d t k : Nat} {past : Int} {l : List Shr} {x : Shr} (h : WheelD σ W d t past l) (hk : l[k]? = some x) (hq : Q (.int x.share) σ) : WFn (cx w mean mg mb) ⟨n + 2, true, sc⟩ m_Wheel_share_of [.ref W, .str x.name] ρ Q X σ := by
  have hW : σ W = some (t, .inst a_Wheel [("past", .int past), ("sharers", .ref d)]) := h.whl
  have hx : σ x.a = some (t, .inst a_Sharer [("share", .int x.share), ("clock", .int x.clock), ("ready", .bool x.ready)]) := h.shr x (List.mem_of_getElem? hk)
  refine WFn.fn2 (p1 := "self") (p2 := "name") ⟨⟨_, _, _, _, _, _, _, _, _, _, _, _, _, (rfl : (Mine.hd.heap_39 w.params).lookup m_Wheel_share_of = _), by kernel_rfl, us2 fun _ _ => rfl⟩, by kernel_rfl⟩ ?_
  with_reducible refine WSs.cons ?_
  with_reducible refine WS.ret ?_
  with_reducible refine WE.attr (by walk_at "u") ?_
  with_reducible refine WE.method (by walk_at "u") rfl rfl rfl ?_
  with_reducible refine WE.localA (by kernel_rfl) (by kernel_rfl) (by walk_at "lk") ?_
  with_reducible refine WM.inst (by walk_at "hp") ms_Wheel_need (by kernel_rfl) ?_
  with_reducible refine And.intro (Callee.meth ms_Wheel_need) ?_
  with_reducible refine WEs.cons rfl ?_
  with_reducible refine WE.localA (by kernel_rfl) (by kernel_rfl) (by walk_at "lk") ?_
  with_reducible refine WEs.nil ?_
  refine WCall.of_fn (need_c h hk ?_)
  with_reducible refine WGet.inst (by walk_at "hp") (by kernel_rfl) (by walk_at "fl") (by with_unfolding_all rfl) ?_
  exact hq
theorem names_c (t' : Nat) {W d t : Nat} {past : Int} {l : List Shr} (h : WheelD σ W d t past l) (hz : l.length ≤ 1000000) (hq : ∀ b, Fresh σ b → Q (.ref b) (σ.put b t' (.list ((l.map (·.name)).map .str)))) : WFn (cx w mean mg mb) ⟨n + 1, true, sc⟩ m_Wheel_names [.ref W] ρ Q X σ := by
  have hW : σ W = some (t, .inst a_Wheel [("past", .int past), ("sharers", .ref d)]) := h.whl
  refine WFn.fn1 (p1 := "self") ⟨⟨_, _, _, _, _, _, _, _, _, _, _, _, _, (rfl : (Mine.hd.heap_39 w.params).lookup m_Wheel_names = _), by kernel_rfl, us1 fun _ => rfl⟩, by kernel_rfl⟩ ?_
  with_reducible refine WSs.cons ?_
  with_reducible refine WS.ret ?_
  with_reducible refine WE.call rfl rfl ?_
  with_reducible refine WE.globalA (by kernel_rfl) g_list ?_
  with_reducible refine And.intro (Callee.con rfl) ?_
  with_reducible refine WEs.cons rfl ?_
  with_reducible refine WE.attr (by walk_at "u") ?_
  with_reducible refine WE.localA (by kernel_rfl) (by kernel_rfl) (by walk_at "lk") ?_
  with_reducible refine WGet.inst (by walk_at "hp") (by kernel_rfl) (by walk_at "fl") (by with_unfolding_all rfl) ?_
  with_reducible refine WEs.nil ?_
  refine WCall.listKeys t' rfl h.dic (by simpa [ents] using hz) fun b hb => ?_
  skip
  have e : (ents l).map (fun p => MV.str p.1) = (l.map (·.name)).map .str := by simp [ents]
  rw [e]
  exact hq b hb
theorem delK_ents {l : List Shr} {k : Nat} {x : Shr} (nd : (l.map (·.name)).Nodup) (hk : l[k]? = some x) : delK (ents l) x.name = ents (l.eraseIdx k) := by
  unfold delK ents
  induction l generalizing k with
  | nil => simp at hk
  | cons y l ih =>
    simp only [List.map_cons, List.nodup_cons] at nd
    cases k with
    | zero =>
      simp at hk; subst hk
      simp only [List.map_cons, List.eraseIdx_cons_zero]
      rw [List.filter_cons_of_neg (by simp)]
      refine List.filter_eq_self.mpr fun p hp => ?_
      obtain ⟨z, hz, rfl⟩ := List.mem_map.mp hp
      simp only [ne_eq, decide_eq_true_eq]
      exact fun q => nd.1 (List.mem_map.mpr ⟨z, hz, q⟩)
    | succ k =>
      simp only [List.getElem?_cons_succ] at hk
      simp only [List.map_cons, List.eraseIdx_cons_succ]
      rw [List.filter_cons_of_pos, ih nd.2 hk]
      simp only [ne_eq, decide_eq_true_eq]
      exact fun q => nd.1 (q ▸ List.mem_map.mpr ⟨x, List.mem_of_getElem? hk, rfl⟩)
theorem WheelD.leave {σ : Hp} {W d t : Nat} {past : Int} {l : List Shr} (h : WheelD σ W d t past l) (k : Nat) : WheelD (σ.put d t (.sdict (ents (l.eraseIdx k)))) W d t past (l.eraseIdx k) where
  whl := Hp.ne (fun q => by have := h.dic; rw [← q, h.whl] at this; simp [wObj] at this) h.whl
  dic := Hp.self
  shr := fun z hz => Hp.ne (fun q => by have := h.dic; rw [← q, h.shr z (List.mem_of_mem_eraseIdx hz)] at this; simp [Shr.obj] at this) (h.shr z (List.mem_of_mem_eraseIdx hz))
  nn := List.Nodup.sublist (List.Sublist.map _ (List.eraseIdx_sublist l k)) h.nn
  na := List.Nodup.sublist (List.Sublist.map _ (List.eraseIdx_sublist l k)) h.na
theorem leave_c {W d t k : Nat} {past : Int} {l : List Shr} {x : Shr} (h : WheelD σ W d t past l) (hz : l.length ≤ 1000000) (hk : l[k]? = some x) (hq : ∀ σ', WheelD σ' W d t past (l.eraseIdx k) → Oth t σ σ' → Q .none σ') :
    WFn (cx w mean mg mb) ⟨n + 2, true, sc⟩ m_Wheel_leave [.ref W, .str x.name] ρ Q X σ := by
  have hW : σ W = some (t, .inst a_Wheel [("past", .int past), ("sharers", .ref d)]) := h.whl
  refine WFn.fn2 (p1 := "self") (p2 := "name") ⟨⟨_, _, _, _, _, _, _, _, _, _, _, _, _, (rfl : (Mine.hd.heap_39 w.params).lookup m_Wheel_leave = _), by kernel_rfl, us2 fun _ _ => rfl⟩, by kernel_rfl⟩ ?_
  with_reducible refine WSs.cons ?_
  with_reducible refine WS.expr (by walk_at "u") ?_
  with_reducible refine WE.method (by walk_at "u") rfl rfl rfl ?_
  with_reducible refine WE.localA (by kernel_rfl) (by kernel_rfl) (by walk_at "lk") ?_
  with_reducible refine WM.inst (by walk_at "hp") ms_Wheel_need (by kernel_rfl) ?_
  with_reducible refine And.intro (Callee.meth ms_Wheel_need) ?_
  with_reducible refine WEs.cons rfl ?_
  with_reducible refine WE.localA (by kernel_rfl) (by kernel_rfl) (by walk_at "lk") ?_
  with_reducible refine WEs.nil ?_
  refine WCall.of_fn (need_c h hk ?_)
  with_reducible refine WSs.cons ?_
  with_reducible refine WS.expr (by walk_at "u") ?_
  with_reducible refine WE.method (by walk_at "u") rfl rfl rfl ?_
  with_reducible refine WE.attr (by walk_at "u") ?_
  with_reducible refine WE.localA (by kernel_rfl) (by kernel_rfl) (by walk_at "lk") ?_
  with_reducible refine WGet.inst (by walk_at "hp") (by kernel_rfl) (by walk_at "fl") (by with_unfolding_all rfl) ?_
  refine WM.dictPop h.dic ?_
  with_reducible refine And.intro (Callee.con rfl) ?_
  with_reducible refine WEs.cons rfl ?_
  with_reducible refine WE.localA (by kernel_rfl) (by kernel_rfl) (by walk_at "lk") ?_
  with_reducible refine WEs.nil ?_
  refine WCall.dictPop h.dic (by simpa [ents] using hz) (getK_ents h.nn hk) ?_
  rw [delK_ents h.nn hk]
  with_reducible refine WSs.nil ?_
  exact hq _ (h.leave k) (Oth.put Oth.refl h.dic)
def shared (past share : Int) (x : Shr) : Shr := { x with share := share, clock := if past < x.clock then past + ((x.clock - past) * (27720 : Int).fdiv share).fdiv ((27720 : Int).fdiv x.share) else x.clock }
theorem stepB {k : Int} (h0 : 1 ≤ k) (h1 : k ≤ 12) : 2310 ≤ (27720 : Int).fdiv k ∧ (27720 : Int).fdiv k ≤ 27720 := by
  rw [Int.fdiv_eq_ediv_of_nonneg _ (le0 h0)]
  exact ⟨(Int.le_ediv_iff_mul_le (lt0 h0)).mpr (Int.le_trans (Int.mul_le_mul_of_nonneg_left h1 (by decide)) (by decide)), Int.ediv_le_self _ (by decide)⟩
theorem sh_lo (a : Int) : 1 ≤ 1 + a.fmod 12 := Int.le_add_of_nonneg_right (fmod_ge a (by decide))
theorem sh_hi (a : Int) : 1 + a.fmod 12 ≤ 12 := by rw [Int.add_comm]; exact Int.add_one_le_of_lt (fmod_lt a (by decide))
theorem stepMul {a k : Int} (h0 : 1 ≤ k) (h1 : k ≤ 12) : IntMulOk a ((27720 : Int).fdiv k) :=
  IntMulOk.of_right (intBits_le_iff.mpr (by have := stepB h0 h1; omega))
theorem reshare_c {W d t k : Nat} {past share : Int} {l : List Shr} {x : Shr} (h : WheelD σ W d t past l) (hk : l[k]? = some x) (h0 : 1 ≤ share) (h1 : share ≤ 12) (g0 : 1 ≤ x.share) (g1 : x.share ≤ 12)
    (hq : ∀ σ', WheelD σ' W d t past (l.set k (shared past share x)) → Oth t σ σ' → Q .none σ') : WFn (cx w mean mg mb) ⟨n + 3, true, sc⟩ m_Wheel_reshare [.ref W, .str x.name, .int share] ρ Q X σ := by
  have hW : σ W = some (t, .inst a_Wheel [("past", .int past), ("sharers", .ref d)]) := h.whl
  have hx : σ x.a = some (t, .inst a_Sharer [("share", .int x.share), ("clock", .int x.clock), ("ready", .bool x.ready)]) := h.shr x (List.mem_of_getElem? hk)
  have z0 : (27720 : Int).fdiv x.share ≠ 0 := by have := stepB g0 g1; omega
  have z1 : ((27720 : Int).fdiv x.share).natAbs < 1073741824 := by have := stepB g0 g1; omega
  refine WFn.fn3 (p1 := "self") (p2 := "name") (p3 := "share") ⟨⟨_, _, _, _, _, _, _, _, _, _, _, _, _, (rfl : (Mine.hd.heap_39 w.params).lookup m_Wheel_reshare = _), by kernel_rfl, us3 fun _ _ _ => rfl⟩, by kernel_rfl⟩ ?_
  with_reducible refine WSs.cons ?_
  with_reducible refine WS.assign (by walk_at "u") ?_
  with_reducible refine WE.method (by walk_at "u") rfl rfl rfl ?_
  with_reducible refine WE.localA (by kernel_rfl) (by kernel_rfl) (by walk_at "lk") ?_
  with_reducible refine WM.inst (by walk_at "hp") ms_Wheel_need (by kernel_rfl) ?_
  with_reducible refine And.intro (Callee.meth ms_Wheel_need) ?_
  with_reducible refine WEs.cons rfl ?_
  with_reducible refine WE.localA (by kernel_rfl) (by kernel_rfl) (by walk_at "lk") ?_
  with_reducible refine WEs.nil ?_
  refine WCall.of_fn (need_c h hk ?_)
  with_reducible refine WSt.localA (by kernel_rfl) ?_
  with_reducible refine WSs.cons ?_
  with_reducible refine WS.assign (by walk_at "u") ?_
  with_reducible refine WE.call rfl rfl ?_
  with_reducible refine WE.globalA (by kernel_rfl) g_step ?_
  with_reducible refine And.intro (Callee.fn fn_step) ?_
  with_reducible refine WEs.cons rfl ?_
  with_reducible refine WE.localA (by kernel_rfl) (by kernel_rfl) (by walk_at "lk") ?_
  with_reducible refine WEs.nil ?_
  refine WCall.of_fn (step_ok h0 h1 ?_)
  by_cases hlt : past < x.clock
  · skip
    with_reducible refine WSt.localA (by kernel_rfl) ?_
    with_reducible refine WSs.cons ?_
    with_reducible refine WS.ite ?_
    with_reducible refine WT.cmp1 rfl ?_
    with_reducible refine WE.attr (by walk_at "u") ?_
    with_reducible refine WE.localA (by kernel_rfl) (by kernel_rfl) (by walk_at "lk") ?_
    with_reducible refine WGet.inst (by walk_at "hp") (by kernel_rfl) (by walk_at "fl") (by with_unfolding_all rfl) ?_
    with_reducible refine WE.attr (by walk_at "u") ?_
    with_reducible refine WE.localA (by kernel_rfl) (by kernel_rfl) (by walk_at "lk") ?_
    with_reducible refine WGet.inst (by walk_at "hp") (by kernel_rfl) (by walk_at "fl") (by with_unfolding_all rfl) ?_
    with_reducible refine WC.gt ?_
    with_reducible refine WTr.bool ?_
    with_reducible refine if_dt (by walk_at "as") ?_
    with_reducible refine WSs.cons ?_
    with_reducible refine WS.setAttr (by walk_at "u") ?_
    with_reducible refine WE.binop ?_
    with_reducible refine WE.attr (by walk_at "u") ?_
    with_reducible refine WE.localA (by kernel_rfl) (by kernel_rfl) (by walk_at "lk") ?_
    with_reducible refine WGet.inst (by walk_at "hp") (by kernel_rfl) (by walk_at "fl") (by with_unfolding_all rfl) ?_
    with_reducible refine WE.binop ?_
    with_reducible refine WE.binop ?_
    with_reducible refine WE.binop ?_
    with_reducible refine WE.attr (by walk_at "u") ?_
    with_reducible refine WE.localA (by kernel_rfl) (by kernel_rfl) (by walk_at "lk") ?_
    with_reducible refine WGet.inst (by walk_at "hp") (by kernel_rfl) (by walk_at "fl") (by with_unfolding_all rfl) ?_
    with_reducible refine WE.attr (by walk_at "u") ?_
    with_reducible refine WE.localA (by kernel_rfl) (by kernel_rfl) (by walk_at "lk") ?_
    with_reducible refine WGet.inst (by walk_at "hp") (by kernel_rfl) (by walk_at "fl") (by with_unfolding_all rfl) ?_
    with_reducible refine WB.sub ?_
    with_reducible refine WE.localA (by kernel_rfl) (by kernel_rfl) (by walk_at "lk") ?_
    refine WB.mul (stepMul h0 h1) ?_
    with_reducible refine WE.call rfl rfl ?_
    with_reducible refine WE.globalA (by kernel_rfl) g_step ?_
    with_reducible refine And.intro (Callee.fn fn_step) ?_
    with_reducible refine WEs.cons rfl ?_
    with_reducible refine WE.attr (by walk_at "u") ?_
    with_reducible refine WE.localA (by kernel_rfl) (by kernel_rfl) (by walk_at "lk") ?_
    with_reducible refine WGet.inst (by walk_at "hp") (by kernel_rfl) (by walk_at "fl") (by with_unfolding_all rfl) ?_
    with_reducible refine WEs.nil ?_
    refine WCall.of_fn (step_ok g0 g1 ?_)
    with_reducible refine WB.div (by walk_at "ar") (by walk_at "ar") ?_
    with_reducible refine WB.add ?_
    with_reducible refine WE.localA (by kernel_rfl) (by kernel_rfl) (by walk_at "lk") ?_
    refine WSet.inst' (fs' := [("share", .int x.share), ("clock", .int (past + ((x.clock - past) * (27720 : Int).fdiv share).fdiv ((27720 : Int).fdiv x.share))), ("ready", .bool x.ready)]) hx (by kernel_rfl) (by kernel_rfl) (by simp) ?_
    with_reducible refine WSs.nil ?_
    with_reducible refine WSs.cons ?_
    with_reducible refine WS.setAttr (by walk_at "u") ?_
    with_reducible refine WE.localA (by kernel_rfl) (by kernel_rfl) (by walk_at "lk") ?_
    with_reducible refine WE.localA (by kernel_rfl) (by kernel_rfl) (by walk_at "lk") ?_
    refine WSet.inst' (fs' := [("share", .int share), ("clock", .int (past + ((x.clock - past) * (27720 : Int).fdiv share).fdiv ((27720 : Int).fdiv x.share))), ("ready", .bool x.ready)]) Hp.self (by kernel_rfl) (by kernel_rfl) (by simp) ?_
    with_reducible refine WSs.nil ?_
    rw [Hp.put_put]
    have h2 := h.upd (y := shared past share x) hk rfl rfl
    have e : (shared past share x).obj = .inst a_Sharer [("share", .int share), ("clock", .int (past + ((x.clock - past) * (27720 : Int).fdiv share).fdiv ((27720 : Int).fdiv x.share))), ("ready", .bool x.ready)] := by simp [shared, hlt, Shr.obj]
    rw [e] at h2
    exact hq _ h2 (Oth.put Oth.refl hx)
  · skip
    with_reducible refine WSt.localA (by kernel_rfl) ?_
    with_reducible refine WSs.cons ?_
    with_reducible refine WS.ite ?_
    with_reducible refine WT.cmp1 rfl ?_
    with_reducible refine WE.attr (by walk_at "u") ?_
    with_reducible refine WE.localA (by kernel_rfl) (by kernel_rfl) (by walk_at "lk") ?_
    with_reducible refine WGet.inst (by walk_at "hp") (by kernel_rfl) (by walk_at "fl") (by with_unfolding_all rfl) ?_
    with_reducible refine WE.attr (by walk_at "u") ?_
    with_reducible refine WE.localA (by kernel_rfl) (by kernel_rfl) (by walk_at "lk") ?_
    with_reducible refine WGet.inst (by walk_at "hp") (by kernel_rfl) (by walk_at "fl") (by with_unfolding_all rfl) ?_
    with_reducible refine WC.gt ?_
    with_reducible refine WTr.bool ?_
    with_reducible refine if_df (by walk_at "as") ?_
    with_reducible refine WSs.nil ?_
    with_reducible refine WSs.cons ?_
    with_reducible refine WS.setAttr (by walk_at "u") ?_
    with_reducible refine WE.localA (by kernel_rfl) (by kernel_rfl) (by walk_at "lk") ?_
    with_reducible refine WE.localA (by kernel_rfl) (by kernel_rfl) (by walk_at "lk") ?_
    refine WSet.inst' (fs' := [("share", .int share), ("clock", .int x.clock), ("ready", .bool x.ready)]) hx (by kernel_rfl) (by kernel_rfl) (by simp) ?_
    with_reducible refine WSs.nil ?_
    have h2 := h.upd (y := shared past share x) hk rfl rfl
    have e : (shared past share x).obj = .inst a_Sharer [("share", .int share), ("clock", .int x.clock), ("ready", .bool x.ready)] := by simp [shared, hlt, Shr.obj]
    rw [e] at h2
    exact hq _ h2 (Oth.put Oth.refl hx)
theorem turn_none_c {W d t : Nat} {past : Int} {l : List Shr} (h : WheelD σ W d t past l) (hz : l.length ≤ 1000000) (hp : pick l Option.none = Option.none)
    (hq : ∀ σ', WheelD σ' W d t past l → Oth t σ σ' → Q .none σ') : WFn (cx w mean mg mb) ⟨n + 3, true, sc⟩ m_Wheel_turn [.ref W] ρ Q X σ := by
  have hW : σ W = some (t, .inst a_Wheel [("past", .int past), ("sharers", .ref d)]) := h.whl
  refine WFn.fn1 (p1 := "self") ⟨⟨_, _, _, _, _, _, _, _, _, _, _, _, _, (rfl : (Mine.hd.heap_39 w.params).lookup m_Wheel_turn = _), by kernel_rfl, us1 fun _ => rfl⟩, by kernel_rfl⟩ ?_
  with_reducible refine WSs.cons ?_
  with_reducible refine WS.assign (by walk_at "u") ?_
  with_reducible refine WE.method (by walk_at "u") rfl rfl rfl ?_
  with_reducible refine WE.localA (by kernel_rfl) (by kernel_rfl) (by walk_at "lk") ?_
  with_reducible refine WM.inst (by walk_at "hp") ms_Wheel_whose (by kernel_rfl) ?_
  with_reducible refine And.intro (Callee.meth ms_Wheel_whose) ?_
  with_reducible refine WEs.nil ?_
  refine WCall.of_fn (whose_c h hz fun b hb => ?_)
  rw [hp]
  show WSt _ _ _ .none _ _ _ _
  with_reducible refine WSt.localA (by kernel_rfl) ?_
  with_reducible refine WSs.cons ?_
  with_reducible refine WS.ite ?_
  with_reducible refine WT.cmp1 rfl ?_
  with_reducible refine WE.localA (by kernel_rfl) (by kernel_rfl) (by walk_at "lk") ?_
  with_reducible refine WE.none ?_
  with_reducible refine WC.isNN ?_
  with_reducible refine WTr.bool ?_
  with_reducible refine if_tt ?_
  with_reducible refine WSs.cons ?_
  with_reducible refine WS.ret ?_
  with_reducible refine WE.none ?_
  exact hq _ (h.keep (Kpt.new hb.none)) (Oth.refl.new hb.none)
abbrev Extd (σ σ' : Hp) : Prop := ∀ a p, σ a = some p → σ' a = some p
def core (x : Shr) : Str × Int × Int × Bool := (x.name, x.share, x.clock, x.ready)
theorem core_name {l l' : List Shr} (h : l'.map core = l.map core) : l'.map (·.name) = l.map (·.name) := by
  have := congrArg (List.map (·.1)) h
  rw [List.map_map, List.map_map] at this
  exact this
theorem make_wheelF (t : Nat) (h : ∀ W d σ', σ W = Option.none → σ d = Option.none → WheelD σ' W d t 0 [] → Extd σ σ' → Q (.ref W) σ') :
    WFn (cx w mean mg mb) ⟨n + 2, true, sc⟩ a_Wheel [] ρ Q X σ := by
  refine WFn.make t mi_Wheel fun b hb hbn => ?_
  refine WFn.fn1 (p1 := "self") ⟨⟨_, _, _, _, _, _, _, _, _, _, _, _, _, (rfl : (Mine.hd.heap_39 w.params).lookup m_Wheel_init = _), by kernel_rfl, us1 fun _ => rfl⟩, by kernel_rfl⟩ ?_
  with_reducible refine WSs.cons ?_
  with_reducible refine WS.setAttr (by walk_at "u") ?_
  with_reducible refine WE.int ?_
  with_reducible refine WE.localA (by kernel_rfl) (by kernel_rfl) (by walk_at "lk") ?_
  refine WSet.inst' (fs' := [("past", .int 0)]) Hp.self (by kernel_rfl) (by kernel_rfl) (by simp) ?_
  with_reducible refine WSs.cons ?_
  with_reducible refine WS.setAttr (by walk_at "u") ?_
  refine WE.sdict t fun d hd => ?_
  with_reducible refine WE.localA (by kernel_rfl) (by kernel_rfl) (by walk_at "lk") ?_
  have hne : b ≠ d := fun q => by
    have := hd b _ Hp.self
    omega
  refine WSet.inst' (fs' := [("past", .int 0), ("sharers", .ref d)]) (Hp.ne hne Hp.self) (by kernel_rfl) (by kernel_rfl) (by simp) ?_
  with_reducible refine WSs.nil ?_
  refine ⟨rfl, ?_⟩
  rw [Hp.put_put] at hd
  have hdn : σ d = Option.none := by
    cases e : σ d with
    | none => rfl
    | some p =>
      have q : (σ.put b t (.inst a_Wheel [("past", .int 0)])) d = some p := Hp.new hbn e
      have q' := hd.none
      rw [q] at q'
      exact nomatch q'
  refine h b d _ hbn hdn ⟨Hp.self, Hp.ne (Ne.symm hne) Hp.self, (fun x hx => nomatch hx), List.nodup_nil, List.nodup_nil⟩ fun a p e => ?_
  have e1 : (σ.put b t (.inst a_Wheel [("past", .int 0)])) a = some p := Hp.new hbn e
  have e2 : a ≠ b := fun q => by rw [q, hbn] at e; exact nomatch e
  exact Hp.ne e2 (by rw [Hp.put_put]; exact Hp.new hd.none e1)
theorem Extd.put {σ σ' : Hp} {b t : Nat} {o : MO} (h : Extd σ σ') (hb : σ b = Option.none) : Extd σ (σ'.put b t o) := fun a p e => Hp.ne (fun q => by rw [q, hb] at e; exact nomatch e) (h a p e)
theorem Extd.new {σ σ' : Hp} {b t : Nat} {o : MO} (h : Extd σ σ') (hb : σ' b = Option.none) : Extd σ (σ'.put b t o) := fun a p e => Hp.new hb (h a p e)
theorem copied_c (t' : Nat) {W d t : Nat} {past : Int} {l : List Shr} (h : WheelD σ W d t past l) (hz : l.length ≤ 1000000)
    (hq : ∀ W' d' l' σ', σ W' = Option.none → WheelD σ' W' d' t' past l' → l'.map core = l.map core → Extd σ σ' → Q (.ref W') σ') : WFn (cx w mean mg mb) ⟨n + 3, true, sc⟩ m_Wheel_copied [.ref W] ρ Q X σ := by
  have hW : σ W = some (t, .inst a_Wheel [("past", .int past), ("sharers", .ref d)]) := h.whl
  have hd := h.dic
  refine WFn.fn1 (p1 := "self") ⟨⟨_, _, _, _, _, _, _, _, _, _, _, _, _, (rfl : (Mine.hd.heap_39 w.params).lookup m_Wheel_copied = _), by kernel_rfl, us1 fun _ => rfl⟩, by kernel_rfl⟩ ?_
  with_reducible refine WSs.cons ?_
  with_reducible refine WS.assign (by walk_at "u") ?_
  with_reducible refine WE.call rfl rfl ?_
  with_reducible refine WE.globalA (by kernel_rfl) g_Wheel ?_
  with_reducible refine And.intro (Callee.cls mi_Wheel) ?_
  with_reducible refine WEs.nil ?_
  refine WCall.of_fn (make_wheelF t' fun W' d' σ1 n1 n2 hw1 e1 => ?_)
  have hW1 := e1 _ _ hW
  have hV1 : σ1 W' = some (t', .inst a_Wheel [("past", .int 0), ("sharers", .ref d')]) := hw1.whl
  with_reducible refine WSt.localA (by kernel_rfl) ?_
  with_reducible refine WSs.cons ?_
  with_reducible refine WS.setAttr (by walk_at "u") ?_
  with_reducible refine WE.attr (by walk_at "u") ?_
  with_reducible refine WE.localA (by kernel_rfl) (by kernel_rfl) (by walk_at "lk") ?_
  with_reducible refine WGet.inst (by walk_at "hp") (by kernel_rfl) (by walk_at "fl") (by with_unfolding_all rfl) ?_
  with_reducible refine WE.localA (by kernel_rfl) (by kernel_rfl) (by walk_at "lk") ?_
  refine WSet.inst' (fs' := [("past", .int past), ("sharers", .ref d')]) hV1 (by kernel_rfl) (by kernel_rfl) (by simp) ?_
  have hw2 := hw1.past (past' := past)
  have e2 : Extd σ (σ1.put W' t' (wObj past d')) := e1.put n1
  change WSs _ _ _ _ _ _ (σ1.put W' t' (wObj past d'))
  generalize σ1.put W' t' (wObj past d') = σ2 at hw2 e2 ⊢
  have hW2 := e2 _ _ hW
  have hd2 := e2 _ _ hd
  with_reducible refine WSs.cons ?_
  with_reducible refine WS.for rfl (by walk_at "u") ?_
  with_reducible refine WE.call rfl rfl ?_
  with_reducible refine WE.globalA (by kernel_rfl) g_list ?_
  with_reducible refine And.intro (Callee.con rfl) ?_
  with_reducible refine WEs.cons rfl ?_
  with_reducible refine WE.attr (by walk_at "u") ?_
  with_reducible refine WE.localA (by kernel_rfl) (by kernel_rfl) (by walk_at "lk") ?_
  with_reducible refine WGet.inst (by walk_at "hp") (by kernel_rfl) (by walk_at "fl") (by with_unfolding_all rfl) ?_
  with_reducible refine WEs.nil ?_
  refine WCall.listKeys (t' + 1) rfl hd2 (by simpa [ents] using hz) fun b hb => ?_
  refine ⟨_, _, Iterable.list (ListAt.own Hp.self), ?_⟩
  refine WFor.byIdx (fun j ρ' σ' => (∃ l', WheelD σ' W' d' t' past l' ∧ l'.map core = (l.take j).map core) ∧ Extd σ σ' ∧ σ' b = some (t' + 1, .list ((ents l).map fun p => .str p.1)) ∧ ρ' "self" = some (.ref W) ∧ ρ' "found" = some (.ref W')) ?_ ?_ ?_
  · exact ⟨⟨[], hw2.keep (Kpt.new hb.none), rfl⟩, e2.new hb.none, Hp.self, by walk_at "lk", by walk_at "lk"⟩
  · rintro j v ρ' σ' hv ⟨⟨l', hw, hc⟩, e, hb', r0, r1⟩
    have hx : ∃ x, l[j]? = some x ∧ v = .str x.name := by
      simp only [ents, List.map_map, List.getElem?_map] at hv
      cases q : l[j]? with
      | none => rw [q] at hv; exact nomatch hv
      | some x => rw [q] at hv; exact ⟨x, rfl, (Option.some.inj hv).symm⟩
    obtain ⟨x, hx, rfl⟩ := hx
    have hxo : σ' x.a = some (t, .inst a_Sharer [("share", .int x.share), ("clock", .int x.clock), ("ready", .bool x.ready)]) := e _ _ (h.shr x (List.mem_of_getElem? hx))
    have hg : getK (ents l) x.name = some (.ref x.a) := getK_ents h.nn hx
    have hW3 := e _ _ hW
    have hd3 := e _ _ hd
    have hV3 : σ' W' = some (t', .inst a_Wheel [("past", .int past), ("sharers", .ref d')]) := hw.whl
    have hD3 := hw.dic
    have hlt : j < l.length := (List.getElem?_eq_some_iff.mp hx).1
    have hl' : l'.length ≤ j := by have := congrArg List.length hc; rw [List.length_map, List.length_map] at this; rw [this]; exact List.length_take_le ..
    have hn : x.name ∉ l'.map (·.name) := by
      rw [core_name hc]
      intro q
      obtain ⟨y, hy, e'⟩ := List.mem_map.mp q
      obtain ⟨i, hi⟩ := List.mem_iff_getElem?.mp hy
      have hij : i < j := by
        have := (List.getElem?_eq_some_iff.mp hi).1
        exact Nat.lt_of_lt_of_le this (List.length_take_le ..)
      rw [List.getElem?_take, if_pos hij] at hi
      exact Nat.ne_of_lt hij (nodup_at h.nn hi hx e')
    refine ⟨ListAt.own hb', ?_⟩
    with_reducible refine WSt.localA (by kernel_rfl) ?_
    with_reducible refine WSs.cons ?_
    with_reducible refine WS.assign (by walk_at "u") ?_
    with_reducible refine WE.sub ?_
    with_reducible refine WE.attr (by walk_at "u") ?_
    with_reducible refine WE.localA (by kernel_rfl) (by kernel_rfl) (by walk_at "lk") ?_
    with_reducible refine WGet.inst (by walk_at "hp") (by kernel_rfl) (by walk_at "fl") (by with_unfolding_all rfl) ?_
    with_reducible refine WE.localA (by kernel_rfl) (by kernel_rfl) (by walk_at "lk") ?_
    with_reducible refine WSub.sdict (by walk_at "u") (by walk_at "hp") (by walk_at "as") ?_
    with_reducible refine WSt.localA (by kernel_rfl) ?_
    with_reducible refine WSs.cons ?_
    with_reducible refine WS.setItem (by walk_at "u") ?_
    with_reducible refine WE.call rfl rfl ?_
    with_reducible refine WE.globalA (by kernel_rfl) g_Sharer ?_
    with_reducible refine And.intro (Callee.cls mi_Sharer) ?_
    with_reducible refine WEs.cons rfl ?_
    with_reducible refine WE.attr (by walk_at "u") ?_
    with_reducible refine WE.localA (by kernel_rfl) (by kernel_rfl) (by walk_at "lk") ?_
    with_reducible refine WGet.inst (by walk_at "hp") (by kernel_rfl) (by walk_at "fl") (by with_unfolding_all rfl) ?_
    with_reducible refine WEs.cons rfl ?_
    with_reducible refine WE.attr (by walk_at "u") ?_
    with_reducible refine WE.localA (by kernel_rfl) (by kernel_rfl) (by walk_at "lk") ?_
    with_reducible refine WGet.inst (by walk_at "hp") (by kernel_rfl) (by walk_at "fl") (by with_unfolding_all rfl) ?_
    with_reducible refine WEs.cons rfl ?_
    with_reducible refine WE.attr (by walk_at "u") ?_
    with_reducible refine WE.localA (by kernel_rfl) (by kernel_rfl) (by walk_at "lk") ?_
    with_reducible refine WGet.inst (by walk_at "hp") (by kernel_rfl) (by walk_at "fl") (by with_unfolding_all rfl) ?_
    with_reducible refine WEs.nil ?_
    refine WCall.of_fn (make_sharer t' fun a ha => ?_)
    with_reducible refine WE.attr (by walk_at "u") ?_
    with_reducible refine WE.localA (by kernel_rfl) (by kernel_rfl) (by walk_at "lk") ?_
    with_reducible refine WGet.inst (by walk_at "hp") (by kernel_rfl) (by walk_at "fl") (by with_unfolding_all rfl) ?_
    with_reducible refine WE.localA (by kernel_rfl) (by kernel_rfl) (by walk_at "lk") ?_
    refine WPut.sdict (by walk_at "hp") (by simp [ents]; omega) ?_
    with_reducible refine WSs.nil ?_
    rw [putK_out hn]
    have hw' := WheelD.enter hw (y := { x with a := a }) ha.none hn
    have ee : ents (l' ++ [{ x with a := a }]) = ents l' ++ [(x.name, .ref a)] := by simp [ents]
    rw [ee] at hw'
    exact ⟨⟨_, hw', by rw [List.map_append, hc, List.take_add_one, hx, List.map_append]; rfl⟩, (e.new ha.none).put n2, Hp.tag (Hp.new ha.none hD3) (by omega) (Hp.new ha.none hb'), by walk_at "lk", by walk_at "lk"⟩
  · rintro ρ' σ' ⟨⟨l', hw, hc⟩, e, hb', r0, r1⟩
    refine ⟨ListAt.own hb', ?_⟩
    with_reducible refine WSs.cons ?_
    with_reducible refine WS.ret ?_
    with_reducible refine WE.localA (by kernel_rfl) (by kernel_rfl) (by walk_at "lk") ?_
    exact hq W' d' l' σ' n1 hw (by rw [hc, List.take_of_length_le (by simp [ents])]) e
theorem All2.imp {α β : Type} {R R' : α → β → Prop} {l : List α} {m : List β} (h : All2 R l m) (k : ∀ a b, R a b → R' a b) : All2 R' l m := by
  induction h with
  | nil => exact .nil
  | cons r _ ih => exact .cons (k _ _ r) ih
def tri (x : Shr) : Int × Bool × Int := (x.clock, x.ready, x.share)
structure Told (σ : Hp) (g B : Nat) (R : List (Int × Bool × Int)) (ts : List Nat) : Prop where
  lst : σ B = some (g, .list (ts.map .ref))
  tup : All2 (fun t (r : Int × Bool × Int) => σ t = some (7, .tuple [.int r.1, .bool r.2.1, .int r.2.2])) ts R
theorem told_c (g : Nat) {W d t N : Nat} {past : Int} {l : List Shr} (h : WheelD σ W d t past l) (hN : σ N = some (2, .list ((l.map (·.name)).map .str))) (hz : l.length ≤ 1000)
    (hq : ∀ B ts σ', Told σ' g B (l.map tri) ts → Extd σ σ' → Q (.ref B) σ') : WFn (cx w mean mg mb) ⟨n + 4, true, sc⟩ a_law_told [.ref W, .ref N] ρ Q X σ := by
  refine WFn.fn2 (p1 := "_law_wheel") (p2 := "_law_names") ⟨⟨_, _, _, _, _, _, _, _, _, _, _, _, _, (rfl : (Mine.hd.heap_39 w.params).lookup a_law_told = _), by kernel_rfl, us2 fun _ _ => rfl⟩, by kernel_rfl⟩ ?_
  with_reducible refine WSs.cons ?_
  with_reducible refine WS.ret ?_
  refine WE.compA g rfl (by walk_at "u") (by kernel_rfl) (by ((repeat (first | assumption | (refine Lo.put_ne (by kernel_rfl) ?_))); rfl)) ?_
  with_reducible refine WE.localA (by kernel_rfl) (by kernel_rfl) (by walk_at "lk") ?_
  refine ⟨_, _, Iterable.list (ListAt.own hN), by simp; omega, ?_⟩
  refine WComp.inv (fun j acc σ' => Extd σ σ' ∧ ∃ ts : List Nat, acc = ts.map .ref ∧ All2 (fun t (r : Int × Bool × Int) => σ' t = some (7, .tuple [.int r.1, .bool r.2.1, .int r.2.2])) ts ((l.take j).map tri)) _ 0 ⟨fun _ _ e => e, [], rfl, .nil⟩ ?_ ?_
  · rintro k v acc σ' hv ⟨e, ts, rfl, ht⟩
    rw [List.getElem?_map, List.getElem?_map] at hv
    obtain ⟨nm, hnm, rfl⟩ := Option.map_eq_some_iff.mp hv
    obtain ⟨x, hx, rfl⟩ := Option.map_eq_some_iff.mp hnm
    have h' : WheelD σ' W d t past l := h.keep ⟨fun a o q => e a _ q⟩
    have hW : σ' W = some (t, .inst a_Wheel [("past", .int past), ("sharers", .ref d)]) := h'.whl
    refine ⟨ListAt.own (e _ _ hN), ?_⟩
    refine WE.tuple 7 ?_
    with_reducible refine WEs.cons rfl ?_
    with_reducible refine WE.method (by walk_at "u") rfl rfl rfl ?_
    with_reducible refine WE.cellA (by kernel_rfl) (by kernel_rfl) (by walk_at "lk") ?_
    with_reducible refine WM.inst (by walk_at "hp") ms_Wheel_clock_of (by kernel_rfl) ?_
    with_reducible refine And.intro (Callee.meth ms_Wheel_clock_of) ?_
    with_reducible refine WEs.cons rfl ?_
    with_reducible refine WE.localA (by kernel_rfl) (by kernel_rfl) (by walk_at "lk") ?_
    with_reducible refine WEs.nil ?_
    refine WCall.of_fn (clock_c h' hx ?_)
    with_reducible refine WEs.cons rfl ?_
    with_reducible refine WE.method (by walk_at "u") rfl rfl rfl ?_
    with_reducible refine WE.cellA (by kernel_rfl) (by kernel_rfl) (by walk_at "lk") ?_
    with_reducible refine WM.inst (by walk_at "hp") ms_Wheel_is_ready (by kernel_rfl) ?_
    with_reducible refine And.intro (Callee.meth ms_Wheel_is_ready) ?_
    with_reducible refine WEs.cons rfl ?_
    with_reducible refine WE.localA (by kernel_rfl) (by kernel_rfl) (by walk_at "lk") ?_
    with_reducible refine WEs.nil ?_
    refine WCall.of_fn (ready_c h' hx ?_)
    with_reducible refine WEs.cons rfl ?_
    with_reducible refine WE.method (by walk_at "u") rfl rfl rfl ?_
    with_reducible refine WE.cellA (by kernel_rfl) (by kernel_rfl) (by walk_at "lk") ?_
    with_reducible refine WM.inst (by walk_at "hp") ms_Wheel_share_of (by kernel_rfl) ?_
    with_reducible refine And.intro (Callee.meth ms_Wheel_share_of) ?_
    with_reducible refine WEs.cons rfl ?_
    with_reducible refine WE.localA (by kernel_rfl) (by kernel_rfl) (by walk_at "lk") ?_
    with_reducible refine WEs.nil ?_
    refine WCall.of_fn (share_c h' hx ?_)
    with_reducible refine WEs.nil ?_
    refine ⟨by simp, fun b hb => ⟨fun a p q => Hp.new hb.none (e a p q), ts ++ [b], by simp, ?_⟩⟩
    rw [Nat.zero_add] at ht
    rw [Nat.zero_add, List.take_add_one, hx, List.map_append]
    refine (ht.imp fun _ _ q => Hp.new hb.none q).append ?_
    exact All2.cons (show (σ'.put b 7 (.tuple [.int x.clock, .bool x.ready, .int x.share])) b = some (7, .tuple [.int (tri x).1, .bool (tri x).2.1, .int (tri x).2.2]) from Hp.self) .nil
  · rintro acc σ' ⟨e, ts, rfl, ht⟩
    refine ⟨ListAt.own (e _ _ hN), fun D hD => ?_⟩
    have el : l.take (0 + ((l.map (·.name)).map MV.str).length) = l := by simp
    rw [el] at ht
    exact hq D ts _ ⟨Hp.self, ht.imp fun _ _ q => Hp.new hD q⟩ fun a p q => Hp.new hD (e a p q)
theorem all2_at {α β : Type} {R : α → β → Prop} {l : List α} {m : List β} (h : All2 R l m) : ∀ {k : Nat} {b : β}, m[k]? = some b → ∃ a, l[k]? = some a ∧ R a b := by
  induction h with
  | nil => intro k b h; simp at h
  | @cons x y l m r _ ih =>
    intro k b h
    cases k with
    | zero => simp at h; subst h; exact ⟨x, rfl, r⟩
    | succ k => simp only [List.getElem?_cons_succ] at h ⊢; exact ih h
theorem Told.oth {σ σ' : Hp} {g B : Nat} {R : List (Int × Bool × Int)} {ts : List Nat} (h : Told σ g B R ts) (o : ∀ {a o}, σ a = some (g, o) → σ' a = some (g, o)) (o7 : ∀ {a o}, σ a = some (7, o) → σ' a = some (7, o)) : Told σ' g B R ts := ⟨o h.lst, h.tup.imp fun _ _ e => o7 e⟩
theorem tup_eqs {c : Cx} {σ : Hp} : ∀ {R : List (Int × Bool × Int)} {ts us : List Nat}, All2 (fun t (r : Int × Bool × Int) => σ t = some (7, .tuple [.int r.1, .bool r.2.1, .int r.2.2])) ts R → All2 (fun t (r : Int × Bool × Int) => σ t = some (7, .tuple [.int r.1, .bool r.2.1, .int r.2.2])) us R → EqVs c σ 2 (ts.map .ref) (us.map .ref)
  | [], _, _, .nil, .nil => .nil
  | r :: R, _, _, .cons a h, .cons b h' => .cons (EqV.of_rc (RcV.tupT (k := 1) a b (.cons (EqV.intT rfl) (.cons (EqV.boolT rfl) (.cons (EqV.intT rfl) .nil))))) (tup_eqs h h')
theorem told_eq {c : Cx} {σ : Hp} {g g' B B' : Nat} {R R' : List (Int × Bool × Int)} {ts us : List Nat} (h : Told σ g B R ts) (h' : Told σ g' B' R' us) (e : R = R') : RcV c σ 3 (.ref B) (.ref B') true ∧ RnV c σ 3 (.ref B) (.ref B') false := by
  subst e
  exact ⟨RcV.listT (ListAt.own h.lst) (ListAt.own h'.lst) (tup_eqs h.tup h'.tup), RnV.listT (ListAt.own h.lst) (ListAt.own h'.lst) (tup_eqs h.tup h'.tup)⟩
def bestV : Option Nat → MV
  | .none => .none
  | some k => .int (k : Int)
def bestOk (l : List Shr) (j : Nat) : Option Nat → Prop
  | .none => pick (l.drop j) Option.none = pick l Option.none
  | some k => ∃ x, l[k]? = some x ∧ pick (l.drop j) (some x) = pick l Option.none
theorem least_c {g B : Nat} {l : List Shr} {ts : List Nat} (h : Told σ g B (l.map tri) ts) (hz : l.length ≤ 1000)
    (hq : ∀ f σ', bestOk l l.length f → Extd σ σ' → Q (bestV f) σ') : WFn (cx w mean mg mb) ⟨n + 2, true, sc⟩ a_law_least [.ref B] ρ Q X σ := by
  have tl : ts.length = l.length := by rw [h.tup.length, List.length_map]
  have hB := h.lst
  refine WFn.fn1 (p1 := "_law_told_here") ⟨⟨_, _, _, _, _, _, _, _, _, _, _, _, _, (rfl : (Mine.hd.heap_39 w.params).lookup a_law_least = _), by kernel_rfl, us1 fun _ => rfl⟩, by kernel_rfl⟩ ?_
  with_reducible refine WSs.cons ?_
  with_reducible refine WS.assign (by walk_at "u") ?_
  with_reducible refine WE.none ?_
  with_reducible refine WSt.localA (by kernel_rfl) ?_
  with_reducible refine WSs.cons ?_
  with_reducible refine WS.for rfl (by walk_at "u") ?_
  with_reducible refine WE.call rfl rfl ?_
  with_reducible refine WE.globalA (by kernel_rfl) g_range ?_
  with_reducible refine And.intro (Callee.con rfl) ?_
  with_reducible refine WEs.cons rfl ?_
  with_reducible refine WE.call rfl rfl ?_
  with_reducible refine WE.globalA (by kernel_rfl) g_len ?_
  with_reducible refine And.intro (Callee.con rfl) ?_
  with_reducible refine WEs.cons rfl ?_
  with_reducible refine WE.localA (by kernel_rfl) (by kernel_rfl) (by walk_at "lk") ?_
  with_reducible refine WEs.nil ?_
  refine WCall.lenList (ListAt.own hB) (by simp; omega) ?_
  have el : ((ts.map MV.ref).length : Int) = (l.length : Int) := by simp [tl]
  rw [el]
  with_reducible refine WEs.nil ?_
  refine WCall.range1 9 fun b hb => ?_
  refine ⟨_, _, itR Hp.self (Int.natCast_nonneg _) (by omega), ?_⟩
  refine WFor.upTo (fun j ρ' σ' => Extd σ σ' ∧ ρ' "_law_told_here" = some (.ref B) ∧ ∃ f, ρ' "_law_best" = some (bestV f) ∧ bestOk l j f) ?_ ?_ ?_
  · exact ⟨fun a p e => Hp.new hb.none e, by walk_at "lk", Option.none, by (change _ = some MV.none); walk_at "lk", rfl⟩
  · rintro j ρ' σ' hj ⟨e, r0, f, rf, hf⟩
    have hlt : j < l.length := by omega
    have hx : l[j]? = some l[j] := List.getElem?_eq_getElem hlt
    generalize l[j] = x at hx
    have hdr : l.drop j = x :: l.drop (j + 1) := by
      obtain ⟨hlt, e⟩ := List.getElem?_eq_some_iff.mp hx
      rw [List.drop_eq_getElem_cons hlt, e]
    obtain ⟨t, ht, htu⟩ := all2_at h.tup (k := j) (b := tri x) (by rw [List.getElem?_map, hx]; rfl)
    have htu' : σ' t = some (7, .tuple [.int x.clock, .bool x.ready, .int x.share]) := e _ _ htu
    have hB' := e _ _ hB
    have hx1 : (ts.map MV.ref)[((j : Nat) : Int).toNat]? = some (.ref t) := by rw [Int.toNat_natCast, List.getElem?_map, ht]; rfl
    have k0 : 0 ≤ ((j : Nat) : Int) := Int.natCast_nonneg j
    have k1 : ((j : Nat) : Int) < 2 ^ 63 := by omega
    with_reducible refine WSt.localA (by kernel_rfl) ?_
    with_reducible refine WSs.cons ?_
    with_reducible refine WS.ite ?_
    with_reducible refine WT.bool ?_
    with_reducible refine WA.and ?_
    with_reducible refine WT.cmp1 rfl ?_
    with_reducible refine WE.sub ?_
    with_reducible refine WE.sub ?_
    with_reducible refine WE.localA (by kernel_rfl) (by kernel_rfl) (by walk_at "lk") ?_
    with_reducible refine WE.localA (by kernel_rfl) (by kernel_rfl) (by walk_at "lk") ?_
    with_reducible refine WSub.list (by walk_at "u") (by walk_at "la") (by walk_at "ar") (by walk_at "ar") (by walk_at "as") ?_
    with_reducible refine WE.int ?_
    refine WSub.tuple (by walk_at "u") htu' (by decide) (by decide) rfl ?_
    cases hr : x.ready with
    | false =>
      with_reducible refine WE.bool ?_
      with_reducible refine WC.isB ?_
      with_reducible refine WTr.bool ?_
      with_reducible refine if_pf (by decide) ?_
      with_reducible refine if_ff ?_
      with_reducible refine WSs.nil ?_
      with_reducible refine WSs.nil ?_
      refine ⟨e, by walk_at "lk", f, by walk_at "lk", ?_⟩
      cases f with
      | none => (simp only [bestOk, hdr, pick, hr, Bool.false_and] at hf; exact hf)
      | some k => (simp only [bestOk, hdr, pick, hr, Bool.false_and] at hf; exact hf)
    | true =>
      cases f with
      | none =>
        have rf' : ρ' "_law_best" = some .none := rf
        with_reducible refine WE.bool ?_
        with_reducible refine WC.isB ?_
        with_reducible refine WTr.bool ?_
        with_reducible refine if_pt (by decide) ?_
        with_reducible refine WA.and ?_
        with_reducible refine WT.bool ?_
        with_reducible refine WA.or ?_
        with_reducible refine WT.cmp1 rfl ?_
        with_reducible refine WE.localA (by kernel_rfl) (by kernel_rfl) (by walk_at "lk") ?_
        with_reducible refine WE.none ?_
        with_reducible refine WC.isNN ?_
        with_reducible refine WTr.bool ?_
        with_reducible refine if_tt ?_
        with_reducible refine if_tt ?_
        with_reducible refine WA.and_nil ?_
        with_reducible refine if_tt ?_
        with_reducible refine WSs.cons ?_
        with_reducible refine WS.assign (by walk_at "u") ?_
        with_reducible refine WE.localA (by kernel_rfl) (by kernel_rfl) (by walk_at "lk") ?_
        with_reducible refine WSt.localA (by kernel_rfl) ?_
        with_reducible refine WSs.nil ?_
        with_reducible refine WSs.nil ?_
        refine ⟨e, by walk_at "lk", some j, by (change _ = some (MV.int (j : Int))); walk_at "lk", x, hx, ?_⟩
        simp only [bestOk, hdr, pick, hr, better, Bool.and_self] at hf; exact hf
      | some k =>
        have rf' : ρ' "_law_best" = some (.int (k : Int)) := rf
        obtain ⟨y, hy, hp⟩ := hf
        have hkl : k < l.length := (List.getElem?_eq_some_iff.mp hy).1
        obtain ⟨u, hu, huu⟩ := all2_at h.tup (k := k) (b := tri y) (by rw [List.getElem?_map, hy]; rfl)
        have huu' : σ' u = some (7, .tuple [.int y.clock, .bool y.ready, .int y.share]) := e _ _ huu
        have hx2 : (ts.map MV.ref)[((k : Nat) : Int).toNat]? = some (.ref u) := by rw [Int.toNat_natCast, List.getElem?_map, hu]; rfl
        have q0 : 0 ≤ ((k : Nat) : Int) := Int.natCast_nonneg k
        have q1 : ((k : Nat) : Int) < 2 ^ 63 := by omega
        clear rf
        simp only [hdr, pick, hr, better, Bool.true_and] at hp
        with_reducible refine WE.bool ?_
        with_reducible refine WC.isB ?_
        with_reducible refine WTr.bool ?_
        with_reducible refine if_pt (by decide) ?_
        with_reducible refine WA.and ?_
        with_reducible refine WT.bool ?_
        with_reducible refine WA.or ?_
        with_reducible refine WT.cmp1 rfl ?_
        with_reducible refine WE.localA (by kernel_rfl) (by kernel_rfl) (by walk_at "lk") ?_
        with_reducible refine WE.none ?_
        with_reducible refine WC.isNI ?_
        with_reducible refine WTr.bool ?_
        with_reducible refine if_ff ?_
        with_reducible refine WA.or ?_
        with_reducible refine WT.cmp1 rfl ?_
        with_reducible refine WE.sub ?_
        with_reducible refine WE.sub ?_
        with_reducible refine WE.localA (by kernel_rfl) (by kernel_rfl) (by walk_at "lk") ?_
        with_reducible refine WE.localA (by kernel_rfl) (by kernel_rfl) (by walk_at "lk") ?_
        with_reducible refine WSub.list (by walk_at "u") (by walk_at "la") (by walk_at "ar") (by walk_at "ar") (by walk_at "as") ?_
        with_reducible refine WE.int ?_
        refine WSub.tuple (by walk_at "u") htu' (by decide) (by decide) rfl ?_
        with_reducible refine WE.sub ?_
        with_reducible refine WE.sub ?_
        with_reducible refine WE.localA (by kernel_rfl) (by kernel_rfl) (by walk_at "lk") ?_
        with_reducible refine WE.localA (by kernel_rfl) (by kernel_rfl) (by walk_at "lk") ?_
        with_reducible refine WSub.list (by walk_at "u") (by walk_at "la") (by walk_at "ar") (by walk_at "ar") (by walk_at "as") ?_
        with_reducible refine WE.int ?_
        refine WSub.tuple (by walk_at "u") huu' (by decide) (by decide) rfl ?_
        by_cases hc : x.clock < y.clock
        · rw [decide_eq_true hc] at hp
          with_reducible refine WC.lt ?_
          with_reducible refine WTr.bool ?_
          with_reducible refine if_dt (by walk_at "as") ?_
          with_reducible refine if_tt ?_
          with_reducible refine WA.and_nil ?_
          with_reducible refine if_tt ?_
          with_reducible refine WSs.cons ?_
          with_reducible refine WS.assign (by walk_at "u") ?_
          with_reducible refine WE.localA (by kernel_rfl) (by kernel_rfl) (by walk_at "lk") ?_
          with_reducible refine WSt.localA (by kernel_rfl) ?_
          with_reducible refine WSs.nil ?_
          with_reducible refine WSs.nil ?_
          exact ⟨e, by walk_at "lk", some j, by (change _ = some (MV.int (j : Int))); walk_at "lk", x, hx, hp⟩
        · rw [decide_eq_false hc] at hp
          with_reducible refine WC.lt ?_
          with_reducible refine WTr.bool ?_
          with_reducible refine if_df (by walk_at "as") ?_
          with_reducible refine WA.or_nil ?_
          with_reducible refine if_ff ?_
          with_reducible refine if_ff ?_
          with_reducible refine WSs.nil ?_
          with_reducible refine WSs.nil ?_
          exact ⟨e, by walk_at "lk", some k, by (change _ = some (MV.int (k : Int))); walk_at "lk", y, hy, hp⟩
  · rintro ρ' σ' ⟨e, r0, f, rf, hf⟩
    with_reducible refine WSs.cons ?_
    with_reducible refine WS.ret ?_
    with_reducible refine WE.localA (by kernel_rfl) (by kernel_rfl) (by walk_at "lk") ?_
    exact hq f σ' hf e
theorem names_eq {c : Cx} {σ : Hp} {a b : Nat} {xs ys : List Str} (ha : ListAt σ a (xs.map .str)) (hb : ListAt σ b (ys.map .str)) (h : xs = ys) : RcV c σ 2 (.ref a) (.ref b) true ∧ RnV c σ 2 (.ref a) (.ref b) false := by
  subst h
  have e : EqVs c σ 1 (xs.map .str) (xs.map .str) := by
    clear ha hb
    induction xs with
    | nil => exact .nil
    | cons x xs ih => exact .cons (EqV.strT rfl) ih
  exact ⟨RcV.listT ha hb e, RnV.listT ha hb e⟩
theorem neWho {p : Option Shr} {i : Ix} (h : Q (.bool false) σ) : WC (cx w mean mg mb) i .NotEq (whoV p) (whoV p) ρ Q X σ := by
  cases p with
  | none => exact WC.neNN h
  | some x => exact WC.neS (by rw [bne_self_eq_false]; exact h)
def Sh (l : List Shr) : Prop := ∀ x ∈ l, 1 ≤ x.share ∧ x.share ≤ 12
theorem core_tri {l l' : List Shr} (h : l'.map core = l.map core) : l'.map tri = l.map tri := by
  have := congrArg (List.map fun c : Str × Int × Int × Bool => (c.2.2.1, c.2.2.2, c.2.1)) h
  rw [List.map_map, List.map_map] at this
  exact this
theorem core_len {l l' : List Shr} (h : l'.map core = l.map core) : l'.length = l.length := by
  have := congrArg List.length h
  rwa [List.length_map, List.length_map] at this
theorem core_at {l l' : List Shr} (h : l'.map core = l.map core) {k : Nat} {x : Shr} (hk : l[k]? = some x) : ∃ x', l'[k]? = some x' ∧ core x' = core x := by
  have e : (l'.map core)[k]? = some (core x) := by rw [h, List.getElem?_map, hk]; rfl
  rw [List.getElem?_map] at e
  exact Option.map_eq_some_iff.mp e
theorem core_sh {l l' : List Shr} (h : l'.map core = l.map core) (s : Sh l) : Sh l' := fun x hx => by
  obtain ⟨k, hk⟩ := List.mem_iff_getElem?.mp hx
  obtain ⟨y, hy, e⟩ := core_at h.symm hk
  have es : y.share = x.share := congrArg (·.2.1) e
  rw [← es]
  exact s y (List.mem_of_getElem? hy)
theorem pick_core : ∀ {l l' : List Shr} {f f' : Option Shr}, l'.map core = l.map core → f'.map core = f.map core → (pick l' f').map core = (pick l f).map core
  | [], [], _, _, _, h => h
  | [], _ :: _, _, _, h, _ => nomatch h
  | _ :: _, [], _, _, h, _ => nomatch h
  | x :: l, y :: l', f, f', h, hf => by
    rw [List.map_cons, List.map_cons] at h
    obtain ⟨h1, h2⟩ := List.cons.inj h
    have er : y.ready = x.ready := congrArg (·.2.2.2) h1
    have ec : y.clock = x.clock := congrArg (·.2.2.1) h1
    have e : better y f' = better x f := by
      cases f with
      | none =>
        cases f' with
        | none => rfl
        | some z => exact nomatch hf
      | some u =>
        cases f' with
        | none => exact nomatch hf
        | some z =>
          have eu : z.clock = u.clock := congrArg (·.2.2.1) (Option.some.inj hf)
          simp only [better, ec, eu]
    simp only [pick, er, e]
    refine pick_core h2 ?_
    split
    · exact congrArg some h1
    · exact hf
theorem best_none {l : List Shr} (h : bestOk l l.length Option.none) : pick l Option.none = Option.none := by
  simp only [bestOk, List.drop_length, pick] at h
  exact h.symm
theorem best_some {l : List Shr} {k : Nat} (h : bestOk l l.length (some k)) : ∃ x, l[k]? = some x ∧ pick l Option.none = some x := by
  obtain ⟨x, h1, h2⟩ := h
  simp only [List.drop_length, pick] at h2
  exact ⟨x, h1, h2.symm⟩
theorem best_core {l l' : List Shr} {f : Option Nat} (nd : (l'.map (·.name)).Nodup) (h : l'.map core = l.map core) (hb : bestOk l l.length f) : bestOk l' l'.length f ∧ whoV (pick l' Option.none) = whoV (pick l Option.none) := by
  have hp := pick_core (f := Option.none) (f' := Option.none) h rfl
  cases f with
  | none =>
    have e := best_none hb
    rw [e] at hp ⊢
    have e' : pick l' Option.none = Option.none := by
      cases q : pick l' Option.none with
      | none => rfl
      | some z => rw [q] at hp; exact nomatch hp
    exact ⟨by simp only [bestOk, List.drop_length, pick]; exact e'.symm, by rw [e']⟩
  | some k =>
    obtain ⟨x, hk, e⟩ := best_some hb
    rw [e] at hp ⊢
    obtain ⟨x', hk', ex⟩ := core_at h hk
    obtain ⟨z, hz, ez⟩ := Option.map_eq_some_iff.mp hp
    have hm : z ∈ l' := by
      rcases pick_mem hz with q | q
      · exact q.1
      · exact nomatch q
    obtain ⟨j, hj⟩ := List.mem_iff_getElem?.mp hm
    have en : z.name = x'.name := (congrArg (·.1) ez).trans (congrArg (·.1) ex).symm
    have hjk := nodup_at nd hj hk' en
    rw [hjk, hk'] at hj
    have e2 := Option.some.inj hj
    subst e2
    exact ⟨⟨x', hk', by simp only [List.drop_length, pick]; exact hz.symm⟩, by rw [hz]; exact congrArg MV.str (congrArg (·.1) ex)⟩
def aftP (past : Int) (l : List Shr) : Option Nat → Int
  | .none => past
  | some k => ((l[k]?).map (·.clock)).getD past
def aftL (l : List Shr) : Option Nat → List Shr
  | .none => l
  | some k => match l[k]? with
    | .none => l
    | some x => l.set k (dealt x)
theorem aftP_some {past : Int} {l : List Shr} {k : Nat} {x : Shr} (h : l[k]? = some x) : aftP past l (some k) = x.clock := by simp only [aftP, h]; rfl
theorem aftL_some {l : List Shr} {k : Nat} {x : Shr} (h : l[k]? = some x) : aftL l (some k) = l.set k (dealt x) := by simp only [aftL, h]
theorem aftP_core {past : Int} {l l' : List Shr} (h : l'.map core = l.map core) (f : Option Nat) : aftP past l' f = aftP past l f := by
  cases f with
  | none => rfl
  | some k =>
    cases q : l[k]? with
    | none =>
      have : l'[k]? = Option.none := by
        rw [List.getElem?_eq_none_iff] at q ⊢
        rw [core_len h]; exact q
      simp only [aftP, q, this]
    | some x =>
      obtain ⟨x', hk, e⟩ := core_at h q
      rw [aftP_some q, aftP_some hk]
      exact congrArg (·.2.2.1) e
theorem aftL_names (l : List Shr) (f : Option Nat) : (aftL l f).map (·.name) = l.map (·.name) := by
  cases f with
  | none => rfl
  | some k =>
    cases q : l[k]? with
    | none => simp only [aftL, q]
    | some x => rw [aftL_some q]; exact map_set_same _ q rfl
theorem aftL_sh {l : List Shr} (s : Sh l) (f : Option Nat) : Sh (aftL l f) := by
  cases f with
  | none => exact s
  | some k =>
    cases q : l[k]? with
    | none => simp only [aftL, q]; exact s
    | some x =>
      rw [aftL_some q]
      intro z hz
      rcases mem_set_or hz with rfl | ⟨j, _, hj⟩
      · exact s x (List.mem_of_getElem? q)
      · exact s z (List.mem_of_getElem? hj)
theorem turnA_c {W d t : Nat} {past : Int} {l : List Shr} {f : Option Nat} (h : WheelD σ W d t past l) (hz : l.length ≤ 1000000) (hb : bestOk l l.length f) (s : Sh l)
    (hq : ∀ σ', WheelD σ' W d t (aftP past l f) (aftL l f) → Oth t σ σ' → Q (whoV (pick l Option.none)) σ') : WFn (cx w mean mg mb) ⟨n + 3, true, sc⟩ m_Wheel_turn [.ref W] ρ Q X σ := by
  cases f with
  | none =>
    have e := best_none hb
    rw [e] at hq
    exact turn_none_c h hz e hq
  | some k =>
    obtain ⟨x, hk, e⟩ := best_some hb
    rw [e, aftP_some hk, aftL_some hk] at hq
    have := s x (List.mem_of_getElem? hk)
    exact turn_c h hz hk e this.1 this.2 hq
def Kp (σ σ' : Hp) : Prop := ∀ a t o, σ a = some (t, o) → t ≠ 1 → t ≠ 4 → t ≠ 5 → t ≠ 9 → σ' a = some (t, o)
def Held1 (σ : Hp) (nms : List Str) (v : MV) : Prop := ∃ t W d past l B ts, v = .ref t ∧ σ t = some (8, .tuple [.ref W, .int past, .ref B]) ∧ WheelD σ W d 3 past l ∧ Told σ 6 B (l.map tri) ts ∧ l.map (·.name) = nms
theorem Held1.kp {σ σ' : Hp} {nms : List Str} {v : MV} (h : Held1 σ nms v) (k : Kp σ σ') : Held1 σ' nms v := by
  obtain ⟨t, W, d, past, l, B, ts, e, ht, hw, hT, hn⟩ := h
  have k' : ∀ {a t o}, σ a = some (t, o) → t ≠ 1 → t ≠ 4 → t ≠ 5 → t ≠ 9 → σ' a = some (t, o) := fun e h1 h4 h5 h9 => k _ _ _ e h1 h4 h5 h9
  exact ⟨t, W, d, past, l, B, ts, e, k' ht (by decide) (by decide) (by decide) (by decide), hw.keep ⟨fun _ _ e => k' e (by decide) (by decide) (by decide) (by decide)⟩, hT.oth (fun e => k' e (by decide) (by decide) (by decide) (by decide)) (fun e => k' e (by decide) (by decide) (by decide) (by decide)), hn⟩
theorem nm_at {l : List Shr} {nms : List Str} (h : l.map (·.name) = nms) {k : Nat} (hk : k < nms.length) : ∃ x, l[k]? = some x ∧ nms[k]? = some x.name := by
  have hl : k < l.length := by rw [← h, List.length_map] at hk; exact hk
  exact ⟨l[k], List.getElem?_eq_getElem hl, by rw [← h, List.getElem?_map, List.getElem?_eq_getElem hl]; rfl⟩
theorem WS.mono {c : Cx} {i : Ix} {st : Stmt} {ρ : Lo} {σ : Hp} {X : SX} {Q Q' : MF → Lo → Hp → Prop} (h : WS c i st ρ Q X σ) (k : ∀ m ρ' σ', Q m ρ' σ' → Q' m ρ' σ') : WS c i st ρ Q' X σ := S.mono h k
theorem WSs.split {c : Cx} {i : Ix} {st : Stmt} {rest : List Stmt} {ρ : Lo} {σ : Hp} {X : SX} {Q : MF → Lo → Hp → Prop} (P : Lo → Hp → Prop) (h : WS c i st ρ (fun m ρ₁ σ₁ => m = .next ∧ P ρ₁ σ₁) X σ) (k : ∀ ρ₁ σ₁, P ρ₁ σ₁ → WSs c i rest ρ₁ Q X σ₁) : WSs c i (st :: rest) ρ Q X σ :=
  WSs.cons (WS.mono h fun m ρ₁ σ₁ ⟨e, p⟩ => by subst e; exact k ρ₁ σ₁ p)
/-- the facts that the turn carries along -/
structure Car (σ0 σ : Hp) (N H B : Nat) (nms : List Str) (vs : List MV) (R : List (Int × Bool × Int)) (ts : List Nat) : Prop where
  kp : Kp σ0 σ
  nn : σ N = some (2, .list (nms.map .str))
  hh : σ H = some (5, .list vs)
  to : Told σ 6 B R ts
theorem Car.ext {σ0 σ σ' : Hp} {N H B : Nat} {nms : List Str} {vs : List MV} {R : List (Int × Bool × Int)} {ts : List Nat} (c : Car σ0 σ N H B nms vs R ts) (e : Extd σ σ') : Car σ0 σ' N H B nms vs R ts :=
  ⟨fun a t o q h1 h4 h5 h9 => e _ _ (c.kp a t o q h1 h4 h5 h9), e _ _ c.nn, e _ _ c.hh, c.to.oth (fun q => e _ _ q) (fun q => e _ _ q)⟩
theorem Car.oth {σ0 σ σ' : Hp} {N H B g : Nat} {nms : List Str} {vs : List MV} {R : List (Int × Bool × Int)} {ts : List Nat} (c : Car σ0 σ N H B nms vs R ts) (o : Oth g σ σ') (hg : g = 1 ∨ g = 4 ∨ g = 9) : Car σ0 σ' N H B nms vs R ts := by
  have n2 : 2 ≠ g := by omega
  have n5 : 5 ≠ g := by omega
  have n6 : 6 ≠ g := by omega
  have n7 : 7 ≠ g := by omega
  exact ⟨fun a t q e h1 h4 h5 h9 => o.at (c.kp a t q e h1 h4 h5 h9) (by omega), o.at c.nn n2, o.at c.hh n5, c.to.oth (fun q => o.at q n6) (fun q => o.at q n7)⟩
theorem turn4_c {W d N H : Nat} {past : Int} {l : List Shr} {vs : List MV} (h : WheelD σ W d 1 past l) (hN : σ N = some (2, .list ((l.map (·.name)).map .str))) (hH : σ H = some (5, .list vs)) (hv : vs.length ≤ 1000) (hz : l.length ≤ 1000) (hp : 1 ≤ l.length) (sh : Sh l) (one : ("one more" : Str) ∉ l.map (·.name))
    (hq : ∀ past' l' v σ', WheelD σ' W d 1 past' l' → l'.map (·.name) = l.map (·.name) → Sh l' → Held1 σ' (l.map (·.name)) v → σ' H = some (5, .list (vs ++ [v])) → Kp σ σ' → Q (.bool true) σ') : WFn (cx w mean mg mb) ⟨n + 5, true, sc⟩ a_law_turn [.ref W, .ref N, .ref H] ρ Q X σ := by
  have hz' : l.length ≤ 1000000 := Nat.le_trans hz (by decide)
  have hW : σ W = some (1, .inst a_Wheel [("past", .int past), ("sharers", .ref d)]) := h.whl
  refine WFn.fn3 (p1 := "_law_wheel") (p2 := "_law_names") (p3 := "_law_held") ⟨⟨_, _, _, _, _, _, _, _, _, _, _, _, _, (rfl : (Mine.hd.heap_39 w.params).lookup a_law_turn = _), by kernel_rfl, us3 fun _ _ _ => rfl⟩, by kernel_rfl⟩ ?_
  with_reducible refine WSs.cons ?_
  with_reducible refine WS.assign (by walk_at "u") ?_
  with_reducible refine WE.call rfl rfl ?_
  with_reducible refine WE.globalA (by kernel_rfl) g_law_told ?_
  with_reducible refine And.intro (Callee.fn fn_law_told) ?_
  with_reducible refine WEs.cons rfl ?_
  with_reducible refine WE.localA (by kernel_rfl) (by kernel_rfl) (by walk_at "lk") ?_
  with_reducible refine WEs.cons rfl ?_
  with_reducible refine WE.localA (by kernel_rfl) (by kernel_rfl) (by walk_at "lk") ?_
  with_reducible refine WEs.nil ?_
  refine WCall.of_fn (told_c 6 h hN hz fun B ts σ1 T1 e1 => ?_)
  have hW1 := e1 _ _ hW
  with_reducible refine WSt.localA (by kernel_rfl) ?_
  with_reducible refine WSs.cons ?_
  with_reducible refine WS.assign (by walk_at "u") ?_
  with_reducible refine WE.attr (by walk_at "u") ?_
  with_reducible refine WE.localA (by kernel_rfl) (by kernel_rfl) (by walk_at "lk") ?_
  with_reducible refine WGet.inst (by walk_at "hp") (by kernel_rfl) (by walk_at "fl") (by with_unfolding_all rfl) ?_
  with_reducible refine WSt.localA (by kernel_rfl) ?_
  with_reducible refine WSs.cons ?_
  with_reducible refine WS.assign (by walk_at "u") ?_
  with_reducible refine WE.call rfl rfl ?_
  with_reducible refine WE.globalA (by kernel_rfl) g_law_least ?_
  with_reducible refine And.intro (Callee.fn fn_law_least) ?_
  with_reducible refine WEs.cons rfl ?_
  with_reducible refine WE.localA (by kernel_rfl) (by kernel_rfl) (by walk_at "lk") ?_
  with_reducible refine WEs.nil ?_
  refine WCall.of_fn (least_c T1 hz fun f σ2 hb e2 => ?_)
  have C2 : Car σ σ2 N H B (l.map (·.name)) vs (l.map tri) ts := (show Car σ σ1 N H B (l.map (·.name)) vs (l.map tri) ts from ⟨fun a t o q _ _ _ _ => e1 _ _ q, e1 _ _ hN, e1 _ _ hH, T1⟩).ext e2
  have h2 : WheelD σ2 W d 1 past l := h.keep ⟨fun a o q => e2 _ _ (e1 _ _ q)⟩
  have tl : ts.length = l.length := by rw [T1.tup.length, List.length_map]
  clear hW1 T1 hW hN hH h e2 e1
  with_reducible refine WSt.localA (by kernel_rfl) ?_
  refine WSs.split (fun ρ1 σ3 => σ3 = σ2 ∧ ρ1 "_law_wheel" = some (.ref W) ∧ ρ1 "_law_names" = some (.ref N) ∧ ρ1 "_law_held" = some (.ref H) ∧ ρ1 "_law_told_here" = some (.ref B) ∧ ρ1 "_law_past" = some (.int past) ∧ ρ1 "_law_best" = some (bestV f) ∧ ρ1 "_law_due" = some (whoV (pick l Option.none))) ?_ ?_
  · cases f with
    | none =>
      rw [best_none hb]
      simp only [bestV, whoV]
      with_reducible refine WS.assign (by walk_at "u") ?_
      with_reducible refine WE.ifexp ?_
      with_reducible refine WT.cmp1 rfl ?_
      with_reducible refine WE.localA (by kernel_rfl) (by kernel_rfl) (by walk_at "lk") ?_
      with_reducible refine WE.none ?_
      with_reducible refine WC.isNN ?_
      with_reducible refine WTr.bool ?_
      with_reducible refine if_tt ?_
      with_reducible refine WE.none ?_
      with_reducible refine WSt.localA (by kernel_rfl) ?_
      exact ⟨rfl, rfl, by walk_at "lk", by walk_at "lk", by walk_at "lk", by walk_at "lk", by walk_at "lk", by walk_at "lk", by walk_at "lk"⟩
    | some k =>
      obtain ⟨x, hk, ek⟩ := best_some hb
      rw [ek]
      simp only [bestV, whoV]
      have klt := (List.getElem?_eq_some_iff.mp hk).1
      have hN2 := C2.nn
      have hx1 : ((l.map (·.name)).map MV.str)[((k : Nat) : Int).toNat]? = some (.str x.name) := by rw [Int.toNat_natCast, List.getElem?_map, List.getElem?_map, hk]; rfl
      have k0 : 0 ≤ ((k : Nat) : Int) := Int.natCast_nonneg k
      have k1 : ((k : Nat) : Int) < 2 ^ 63 := by omega
      with_reducible refine WS.assign (by walk_at "u") ?_
      with_reducible refine WE.ifexp ?_
      with_reducible refine WT.cmp1 rfl ?_
      with_reducible refine WE.localA (by kernel_rfl) (by kernel_rfl) (by walk_at "lk") ?_
      with_reducible refine WE.none ?_
      with_reducible refine WC.isNI ?_
      with_reducible refine WTr.bool ?_
      with_reducible refine if_ff ?_
      with_reducible refine WE.sub ?_
      with_reducible refine WE.localA (by kernel_rfl) (by kernel_rfl) (by walk_at "lk") ?_
      with_reducible refine WE.localA (by kernel_rfl) (by kernel_rfl) (by walk_at "lk") ?_
      with_reducible refine WSub.list (by walk_at "u") (by walk_at "la") (by walk_at "ar") (by walk_at "ar") (by walk_at "as") ?_
      with_reducible refine WSt.localA (by kernel_rfl) ?_
      exact ⟨rfl, rfl, by walk_at "lk", by walk_at "lk", by walk_at "lk", by walk_at "lk", by walk_at "lk", by walk_at "lk", by walk_at "lk"⟩
  rintro ρ1 σ3 ⟨rfl, r1, r2, r3, r4, r5, r6, r7⟩
  have hH2 := C2.hh
  have hW2 : σ3 W = some (1, .inst a_Wheel [("past", .int past), ("sharers", .ref d)]) := h2.whl
  with_reducible refine WSs.cons ?_
  with_reducible refine WS.expr (by walk_at "u") ?_
  with_reducible refine WE.method (by walk_at "u") rfl rfl rfl ?_
  with_reducible refine WE.localA (by kernel_rfl) (by kernel_rfl) (by walk_at "lk") ?_
  refine WM.listAppend hH2 ?_
  with_reducible refine And.intro (Callee.con rfl) ?_
  with_reducible refine WEs.cons rfl ?_
  refine WE.tuple 8 ?_
  with_reducible refine WEs.cons rfl ?_
  with_reducible refine WE.method (by walk_at "u") rfl rfl rfl ?_
  with_reducible refine WE.localA (by kernel_rfl) (by kernel_rfl) (by walk_at "lk") ?_
  with_reducible refine WM.inst (by walk_at "hp") ms_Wheel_copied (by kernel_rfl) ?_
  with_reducible refine And.intro (Callee.meth ms_Wheel_copied) ?_
  with_reducible refine WEs.nil ?_
  refine WCall.of_fn (copied_c 3 h2 hz' fun W3 d3 l3 σ4 n3 w3 c3 e3 => ?_)
  have C3 := C2.ext e3
  have h3 : WheelD σ4 W d 1 past l := h2.keep ⟨fun a o q => e3 _ _ q⟩
  with_reducible refine WEs.cons rfl ?_
  with_reducible refine WE.localA (by kernel_rfl) (by kernel_rfl) (by walk_at "lk") ?_
  with_reducible refine WEs.cons rfl ?_
  with_reducible refine WE.call rfl rfl ?_
  with_reducible refine WE.globalA (by kernel_rfl) g_list ?_
  with_reducible refine And.intro (Callee.con rfl) ?_
  with_reducible refine WEs.cons rfl ?_
  with_reducible refine WE.localA (by kernel_rfl) (by kernel_rfl) (by walk_at "lk") ?_
  with_reducible refine WEs.nil ?_
  refine WCall.listList 6 (ListAt.own C3.to.lst) (by simp; omega) fun B3 hB3 => ?_
  with_reducible refine WEs.nil ?_
  refine ⟨by simp, fun t3 ht3 => ?_⟩
  with_reducible refine WEs.nil ?_
  refine WCall.append (Hp.new ht3.none (Hp.new hB3.none C3.hh)) (by omega) ?_
  have oth : ∀ {a t' o}, σ4 a = some (t', o) → t' ≠ 5 → (((σ4.put B3 6 (.list (ts.map .ref))).put t3 8 (.tuple [.ref W3, .int past, .ref B3])).put H 5 (.list (vs ++ [.ref t3]))) a = some (t', o) := fun e n5 => Hp.tag (Hp.new ht3.none (Hp.new hB3.none C3.hh)) n5 (Hp.new ht3.none (Hp.new hB3.none e))
  have C4 : Car σ _ N H B (l.map (·.name)) (vs ++ [.ref t3]) (l.map tri) ts := ⟨fun a t o q h1 h4 h5 h9 => oth (C3.kp a t o q h1 h4 h5 h9) h5, oth C3.nn (by decide), Hp.self, C3.to.oth (fun q => oth q (by decide)) (fun q => oth q (by decide))⟩
  have h4 : WheelD (((σ4.put B3 6 (.list (ts.map .ref))).put t3 8 (.tuple [.ref W3, .int past, .ref B3])).put H 5 (.list (vs ++ [.ref t3]))) W d 1 past l := h3.keep ⟨fun a o q => oth q (by decide)⟩
  have H4 : Held1 (((σ4.put B3 6 (.list (ts.map .ref))).put t3 8 (.tuple [.ref W3, .int past, .ref B3])).put H 5 (.list (vs ++ [.ref t3]))) (l.map (·.name)) (.ref t3) := by
    refine ⟨t3, W3, d3, past, l3, B3, ts, rfl, Hp.tag (Hp.new ht3.none (Hp.new hB3.none C3.hh)) (by decide) Hp.self, w3.keep ⟨fun a o q => oth q (by decide)⟩, ?_, core_name c3⟩
    rw [core_tri c3]
    exact ⟨Hp.tag (Hp.new ht3.none (Hp.new hB3.none C3.hh)) (by decide) (Hp.new ht3.none Hp.self), C3.to.tup.imp fun _ _ q => oth q (by decide)⟩
  generalize ((σ4.put B3 6 (.list (ts.map .ref))).put t3 8 (.tuple [.ref W3, .int past, .ref B3])).put H 5 (.list (vs ++ [.ref t3])) = σ5 at C4 h4 H4 ⊢
  clear oth h3 C3 e3 w3 n3 hW2 hH2 h2 C2 c3 ht3 hB3
  have hW4 : σ5 W = some (1, .inst a_Wheel [("past", .int past), ("sharers", .ref d)]) := h4.whl
  with_reducible refine WSs.cons ?_
  with_reducible refine WS.assign (by walk_at "u") ?_
  with_reducible refine WE.method (by walk_at "u") rfl rfl rfl ?_
  with_reducible refine WE.localA (by kernel_rfl) (by kernel_rfl) (by walk_at "lk") ?_
  with_reducible refine WM.inst (by walk_at "hp") ms_Wheel_copied (by kernel_rfl) ?_
  with_reducible refine And.intro (Callee.meth ms_Wheel_copied) ?_
  with_reducible refine WEs.nil ?_
  refine WCall.of_fn (copied_c 4 h4 hz' fun C dC lC σ6 nC wC cC eC => ?_)
  have C5 := C4.ext eC
  have h5 : WheelD σ6 W d 1 past l := h4.keep ⟨fun a o q => eC _ _ q⟩
  have H5 : Held1 σ6 (l.map (·.name)) (.ref t3) := H4.kp fun a t o q _ _ _ _ => eC _ _ q
  clear C4 h4 H4 eC nC hW4
  have hW5 : σ6 W = some (1, .inst a_Wheel [("past", .int past), ("sharers", .ref d)]) := h5.whl
  have hC5 : σ6 C = some (4, .inst a_Wheel [("past", .int past), ("sharers", .ref dC)]) := wC.whl
  with_reducible refine WSt.localA (by kernel_rfl) ?_
  with_reducible refine WSs.cons ?_
  with_reducible refine WS.ite ?_
  with_reducible refine WT.bool ?_
  with_reducible refine WA.or ?_
  with_reducible refine WT.not ?_
  with_reducible refine WT.plain (by walk_at "u") ?_
  with_reducible refine WE.call rfl rfl ?_
  with_reducible refine WE.globalA (by kernel_rfl) g_isinstance ?_
  with_reducible refine And.intro (Callee.con rfl) ?_
  with_reducible refine WEs.cons rfl ?_
  with_reducible refine WE.localA (by kernel_rfl) (by kernel_rfl) (by walk_at "lk") ?_
  with_reducible refine WEs.cons rfl ?_
  with_reducible refine WE.globalA (by kernel_rfl) g_Wheel ?_
  with_reducible refine WEs.nil ?_
  refine WCall.isInst hC5 (by kernel_rfl) ?_
  with_reducible refine WTr.bool ?_
  with_reducible refine if_nt ?_
  with_reducible refine WA.or ?_
  with_reducible refine WT.cmp1 rfl ?_
  with_reducible refine WE.method (by walk_at "u") rfl rfl rfl ?_
  with_reducible refine WE.localA (by kernel_rfl) (by kernel_rfl) (by walk_at "lk") ?_
  with_reducible refine WM.inst (by walk_at "hp") ms_Wheel_whose (by kernel_rfl) ?_
  with_reducible refine And.intro (Callee.meth ms_Wheel_whose) ?_
  with_reducible refine WEs.nil ?_
  refine WCall.of_fn (whose_c h5 hz' fun b hb5 => ?_)
  have C6 := C5.ext (σ' := σ6.put b 1 (.list ((ents l).map fun p => .str p.1))) fun a p q => Hp.new hb5.none q
  have h6 := h5.keep (σ' := σ6.put b 1 (.list ((ents l).map fun p => .str p.1))) (Kpt.new hb5.none)
  have w6 := wC.keep (σ' := σ6.put b 1 (.list ((ents l).map fun p => .str p.1))) (Kpt.new hb5.none)
  have H6 := H5.kp (σ' := σ6.put b 1 (.list ((ents l).map fun p => .str p.1))) fun a t o q _ _ _ _ => Hp.new hb5.none q
  generalize σ6.put b 1 (.list ((ents l).map fun p => .str p.1)) = σ7 at C6 h6 w6 H6 ⊢
  clear hW5 hC5 C5 h5 H5 wC hb5
  with_reducible refine WE.localA (by kernel_rfl) (by kernel_rfl) (by walk_at "lk") ?_
  refine neWho ?_
  have hW6 : σ7 W = some (1, .inst a_Wheel [("past", .int past), ("sharers", .ref d)]) := h6.whl
  with_reducible refine WTr.bool ?_
  with_reducible refine if_ff ?_
  with_reducible refine WA.or ?_
  with_reducible refine WT.cmp1 rfl ?_
  with_reducible refine WE.method (by walk_at "u") rfl rfl rfl ?_
  with_reducible refine WE.localA (by kernel_rfl) (by kernel_rfl) (by walk_at "lk") ?_
  with_reducible refine WM.inst (by walk_at "hp") ms_Wheel_turn (by kernel_rfl) ?_
  with_reducible refine And.intro (Callee.meth ms_Wheel_turn) ?_
  with_reducible refine WEs.nil ?_
  refine WCall.of_fn (turnA_c h6 hz' hb sh fun σ8 h8 o8 => ?_)
  with_reducible refine WE.localA (by kernel_rfl) (by kernel_rfl) (by walk_at "lk") ?_
  refine neWho ?_
  have C8 := C6.oth o8 (Or.inl rfl)
  have w8 := w6.keep (o8.kpt (by decide))
  have H8 := H6.kp fun a t o q h1 _ _ _ => o8.at q h1
  clear hW6 C6 h6 w6 H6 o8
  have hC8 : σ8 C = some (4, .inst a_Wheel [("past", .int past), ("sharers", .ref dC)]) := w8.whl
  have lCl : lC.length = l.length := core_len cC
  have qp : past = past := rfl
  with_reducible refine WTr.bool ?_
  with_reducible refine if_ff ?_
  with_reducible refine WA.or_nil ?_
  with_reducible refine if_ff ?_
  with_reducible refine WSs.nil ?_
  with_reducible refine WSs.cons ?_
  with_reducible refine WS.ite ?_
  with_reducible refine WT.bool ?_
  with_reducible refine WA.or ?_
  with_reducible refine WT.cmp1 rfl ?_
  with_reducible refine WE.attr (by walk_at "u") ?_
  with_reducible refine WE.localA (by kernel_rfl) (by kernel_rfl) (by walk_at "lk") ?_
  with_reducible refine WGet.inst (by walk_at "hp") (by kernel_rfl) (by walk_at "fl") (by with_unfolding_all rfl) ?_
  with_reducible refine WE.localA (by kernel_rfl) (by kernel_rfl) (by walk_at "lk") ?_
  with_reducible refine WC.neI ?_
  with_reducible refine WTr.bool ?_
  with_reducible refine if_nf' (by walk_at "as") ?_
  with_reducible refine WA.or ?_
  with_reducible refine WT.cmp1 rfl ?_
  with_reducible refine WE.method (by walk_at "u") rfl rfl rfl ?_
  with_reducible refine WE.localA (by kernel_rfl) (by kernel_rfl) (by walk_at "lk") ?_
  with_reducible refine WM.inst (by walk_at "hp") ms_Wheel_names (by kernel_rfl) ?_
  with_reducible refine And.intro (Callee.meth ms_Wheel_names) ?_
  with_reducible refine WEs.nil ?_
  refine WCall.of_fn (names_c 9 w8 (by omega) fun b hb9 => ?_)
  have C9 := C8.ext (σ' := σ8.put b 9 (.list ((lC.map (·.name)).map .str))) fun a p q => Hp.new hb9.none q
  have h9 := h8.keep (σ' := σ8.put b 9 (.list ((lC.map (·.name)).map .str))) (Kpt.new hb9.none)
  have w9 := w8.keep (σ' := σ8.put b 9 (.list ((lC.map (·.name)).map .str))) (Kpt.new hb9.none)
  have H9 := H8.kp (σ' := σ8.put b 9 (.list ((lC.map (·.name)).map .str))) fun a t o q _ _ _ _ => Hp.new hb9.none q
  have b9 : (σ8.put b 9 (.list ((lC.map (·.name)).map .str))) b = _ := Hp.self
  generalize σ8.put b 9 (.list ((lC.map (·.name)).map .str)) = σ9 at C9 h9 w9 H9 b9 ⊢
  clear hC8 C8 h8 w8 H8 hb9
  with_reducible refine WE.localA (by kernel_rfl) (by kernel_rfl) (by walk_at "lk") ?_
  refine WC.ne (Nat.succ_le_succ (Nat.zero_le _)) (by decide) (names_eq (ListAt.own b9) (ListAt.own C9.nn) (core_name cC)).2 ?_
  with_reducible refine WTr.bool ?_
  with_reducible refine if_ff ?_
  with_reducible refine WA.or ?_
  with_reducible refine WT.cmp1 rfl ?_
  with_reducible refine WE.call rfl rfl ?_
  with_reducible refine WE.globalA (by kernel_rfl) g_law_told ?_
  with_reducible refine And.intro (Callee.fn fn_law_told) ?_
  with_reducible refine WEs.cons rfl ?_
  with_reducible refine WE.localA (by kernel_rfl) (by kernel_rfl) (by walk_at "lk") ?_
  with_reducible refine WEs.cons rfl ?_
  with_reducible refine WE.localA (by kernel_rfl) (by kernel_rfl) (by walk_at "lk") ?_
  with_reducible refine WEs.nil ?_
  refine WCall.of_fn (told_c 6 w9 (by rw [core_name cC]; exact C9.nn) (by omega) fun B2 ts2 σ10 T2 e2 => ?_)
  have C10 := C9.ext e2
  have h10 := h9.keep ⟨fun a o q => e2 _ _ q⟩
  have w10 := w9.keep ⟨fun a o q => e2 _ _ q⟩
  have H10 := H9.kp fun a t o q _ _ _ _ => e2 _ _ q
  with_reducible refine WE.localA (by kernel_rfl) (by kernel_rfl) (by walk_at "lk") ?_
  refine WC.ne (Nat.succ_le_succ (Nat.zero_le _)) (by decide) (told_eq T2 C10.to (core_tri cC)).2 ?_
  clear T2 e2 C9 h9 w9 H9 b9
  with_reducible refine WTr.bool ?_
  with_reducible refine if_ff ?_
  with_reducible refine WA.or_nil ?_
  with_reducible refine if_ff ?_
  with_reducible refine WSs.nil ?_
  with_reducible refine WSs.cons ?_
  with_reducible refine WS.assign (by walk_at "u") ?_
  with_reducible refine WE.call rfl rfl ?_
  with_reducible refine WE.globalA (by kernel_rfl) g_list ?_
  with_reducible refine And.intro (Callee.con rfl) ?_
  with_reducible refine WEs.cons rfl ?_
  with_reducible refine WE.localA (by kernel_rfl) (by kernel_rfl) (by walk_at "lk") ?_
  with_reducible refine WEs.nil ?_
  refine WCall.listList 9 (ListAt.own C10.to.lst) (by simp; omega) fun F hF => ?_
  have C11 := C10.ext (σ' := σ10.put F 9 (.list (ts.map .ref))) fun a p q => Hp.new hF.none q
  have h11 := h10.keep (σ' := σ10.put F 9 (.list (ts.map .ref))) (Kpt.new hF.none)
  have w11 := w10.keep (σ' := σ10.put F 9 (.list (ts.map .ref))) (Kpt.new hF.none)
  have H11 := H10.kp (σ' := σ10.put F 9 (.list (ts.map .ref))) fun a t o q _ _ _ _ => Hp.new hF.none q
  have F11 : Told (σ10.put F 9 (.list (ts.map .ref))) 9 F (l.map tri) ts := ⟨Hp.self, C11.to.tup⟩
  generalize σ10.put F 9 (.list (ts.map .ref)) = σ11 at C11 h11 w11 H11 F11 ⊢
  clear C10 h10 w10 H10 hF
  with_reducible refine WSt.localA (by kernel_rfl) ?_
  refine WSs.split (fun ρ2 σ12 => Oth 9 σ11 σ12 ∧ (∃ ts', Told σ12 9 F ((aftL l f).map tri) ts') ∧ ρ2 "_law_wheel" = some (.ref W) ∧ ρ2 "_law_names" = some (.ref N) ∧ ρ2 "_law_told_here" = some (.ref B) ∧ ρ2 "_law_past" = some (.int (aftP past l f)) ∧ ρ2 "_law_copy" = some (.ref C) ∧ ρ2 "_law_fresh" = some (.ref F) ∧ ρ2 "_law_due" = some (whoV (pick l Option.none))) ?_ ?_
  · cases f with
    | none =>
      simp only [bestV] at r6
      with_reducible refine WS.ite ?_
      with_reducible refine WT.cmp1 rfl ?_
      with_reducible refine WE.localA (by kernel_rfl) (by kernel_rfl) (by walk_at "lk") ?_
      with_reducible refine WE.none ?_
      with_reducible refine WC.isNotNN ?_
      with_reducible refine WTr.bool ?_
      with_reducible refine if_ff ?_
      with_reducible refine WSs.nil ?_
      exact ⟨rfl, Oth.refl, ⟨ts, F11⟩, by walk_at "lk", by walk_at "lk", by walk_at "lk", by (change _ = some (MV.int past)); walk_at "lk", by walk_at "lk", by walk_at "lk", by walk_at "lk"⟩
    | some k =>
      simp only [bestV] at r6
      obtain ⟨x, hk, ek⟩ := best_some hb
      have klt := (List.getElem?_eq_some_iff.mp hk).1
      have xr : x.ready = true := by
        rcases pick_mem ek with q | q
        · exact q.2
        · exact nomatch q
      obtain ⟨s0, s1⟩ := sh x (List.mem_of_getElem? hk)
      have sn : x.share ≠ 0 := by omega
      have sa : x.share.natAbs < 1073741824 := by omega
      rw [aftP_some hk, aftL_some hk]
      have hB := C11.to.lst
      have hF := F11.lst
      obtain ⟨t, ht, htu⟩ := all2_at C11.to.tup (k := k) (b := tri x) (by rw [List.getElem?_map, hk]; rfl)
      have htu' : σ11 t = some (7, .tuple [.int x.clock, .bool x.ready, .int x.share]) := htu
      have hx1 : (ts.map MV.ref)[((k : Nat) : Int).toNat]? = some (.ref t) := by rw [Int.toNat_natCast, List.getElem?_map, ht]; rfl
      have k0 : 0 ≤ ((k : Nat) : Int) := Int.natCast_nonneg k
      have k1 : ((k : Nat) : Int) < 2 ^ 63 := by omega
      with_reducible refine WS.ite ?_
      with_reducible refine WT.cmp1 rfl ?_
      with_reducible refine WE.localA (by kernel_rfl) (by kernel_rfl) (by walk_at "lk") ?_
      with_reducible refine WE.none ?_
      with_reducible refine WC.isNotNI ?_
      with_reducible refine WTr.bool ?_
      with_reducible refine if_tt ?_
      with_reducible refine WSs.cons ?_
      with_reducible refine WS.assign (by walk_at "u") ?_
      with_reducible refine WE.sub ?_
      with_reducible refine WE.sub ?_
      with_reducible refine WE.localA (by kernel_rfl) (by kernel_rfl) (by walk_at "lk") ?_
      with_reducible refine WE.localA (by kernel_rfl) (by kernel_rfl) (by walk_at "lk") ?_
      with_reducible refine WSub.list (by walk_at "u") (by walk_at "la") (by walk_at "ar") (by walk_at "ar") (by walk_at "as") ?_
      with_reducible refine WE.int ?_
      refine WSub.tuple (by walk_at "u") htu' (by decide) (by decide) rfl ?_
      with_reducible refine WSt.localA (by kernel_rfl) ?_
      with_reducible refine WSs.cons ?_
      with_reducible refine WS.setItem (by walk_at "u") ?_
      refine WE.tuple 7 ?_
      with_reducible refine WEs.cons rfl ?_
      with_reducible refine WE.binop ?_
      with_reducible refine WE.localA (by kernel_rfl) (by kernel_rfl) (by walk_at "lk") ?_
      with_reducible refine WE.binop ?_
      with_reducible refine WE.int ?_
      with_reducible refine WE.sub ?_
      with_reducible refine WE.sub ?_
      with_reducible refine WE.localA (by kernel_rfl) (by kernel_rfl) (by walk_at "lk") ?_
      with_reducible refine WE.localA (by kernel_rfl) (by kernel_rfl) (by walk_at "lk") ?_
      with_reducible refine WSub.list (by walk_at "u") (by walk_at "la") (by walk_at "ar") (by walk_at "ar") (by walk_at "as") ?_
      with_reducible refine WE.int ?_
      refine WSub.tuple (by walk_at "u") htu' (by decide) (by decide) rfl ?_
      with_reducible refine WB.div (by walk_at "ar") (by walk_at "ar") ?_
      with_reducible refine WB.add ?_
      with_reducible refine WEs.cons rfl ?_
      with_reducible refine WE.bool ?_
      with_reducible refine WEs.cons rfl ?_
      with_reducible refine WE.sub ?_
      with_reducible refine WE.sub ?_
      with_reducible refine WE.localA (by kernel_rfl) (by kernel_rfl) (by walk_at "lk") ?_
      with_reducible refine WE.localA (by kernel_rfl) (by kernel_rfl) (by walk_at "lk") ?_
      with_reducible refine WSub.list (by walk_at "u") (by walk_at "la") (by walk_at "ar") (by walk_at "ar") (by walk_at "as") ?_
      with_reducible refine WE.int ?_
      refine WSub.tuple (by walk_at "u") htu' (by decide) (by decide) rfl ?_
      with_reducible refine WEs.nil ?_
      refine ⟨by simp, fun u hu => ?_⟩
      with_reducible refine WE.localA (by kernel_rfl) (by kernel_rfl) (by walk_at "lk") ?_
      with_reducible refine WE.localA (by kernel_rfl) (by kernel_rfl) (by walk_at "lk") ?_
      refine WPut.list (Hp.new hu.none hF) k0 (by simp; omega) (by simp; omega) ?_
      rw [← List.map_set, Int.toNat_natCast]
      with_reducible refine WSs.nil ?_
      refine ⟨rfl, Oth.put (Oth.refl.new hu.none) (Hp.new hu.none hF), ⟨ts.set k u, Hp.self, ?_⟩, by walk_at "lk", by walk_at "lk", by walk_at "lk", by walk_at "lk", by walk_at "lk", by walk_at "lk", by walk_at "lk"⟩
      rw [map_set' tri]
      refine All2.set (F11.tup.imp fun _ _ q => Hp.tag (Hp.new hu.none hF) (by decide) (Hp.new hu.none q)) (Hp.tag (Hp.new hu.none hF) (by decide) ?_) k
      have : tri (dealt x) = (x.clock + (27720 : Int).fdiv x.share, true, x.share) := by simp only [tri, dealt, xr]
      rw [this]
      exact Hp.self
  clear r1 r2 r3 r4 r5 r6 r7
  rintro ρ2 σ12 ⟨o12, ⟨ts', F12⟩, r1, r2, r3, r4, r5, r6, r7⟩
  have C12 := C11.oth o12 (Or.inr (Or.inr rfl))
  have h12 := h11.keep (o12.kpt (by decide))
  have w12 := w11.keep (o12.kpt (by decide))
  have H12 := H11.kp fun a t o q _ _ _ h9 => o12.at q h9
  have sh' := aftL_sh sh f
  have nms' := aftL_names l f
  have ll' : (aftL l f).length = l.length := by have := congrArg List.length nms'; rwa [List.length_map, List.length_map] at this
  clear C11 h11 w11 H11 F11 o12
  generalize hP : aftP past l f = past' at h12 r4 ⊢
  generalize aftL l f = l' at h12 F12 sh' nms' ll' ⊢
  have qp' : past' = past' := rfl
  have hW12 : σ12 W = some (1, .inst a_Wheel [("past", .int past'), ("sharers", .ref d)]) := h12.whl
  with_reducible refine WSs.cons ?_
  with_reducible refine WS.ite ?_
  with_reducible refine WT.bool ?_
  with_reducible refine WA.or ?_
  with_reducible refine WT.cmp1 rfl ?_
  with_reducible refine WE.attr (by walk_at "u") ?_
  with_reducible refine WE.localA (by kernel_rfl) (by kernel_rfl) (by walk_at "lk") ?_
  with_reducible refine WGet.inst (by walk_at "hp") (by kernel_rfl) (by walk_at "fl") (by with_unfolding_all rfl) ?_
  with_reducible refine WE.localA (by kernel_rfl) (by kernel_rfl) (by walk_at "lk") ?_
  with_reducible refine WC.neI ?_
  with_reducible refine WTr.bool ?_
  with_reducible refine if_nf' (by walk_at "as") ?_
  with_reducible refine WA.or ?_
  with_reducible refine WT.cmp1 rfl ?_
  with_reducible refine WE.call rfl rfl ?_
  with_reducible refine WE.globalA (by kernel_rfl) g_law_told ?_
  with_reducible refine And.intro (Callee.fn fn_law_told) ?_
  with_reducible refine WEs.cons rfl ?_
  with_reducible refine WE.localA (by kernel_rfl) (by kernel_rfl) (by walk_at "lk") ?_
  with_reducible refine WEs.cons rfl ?_
  with_reducible refine WE.localA (by kernel_rfl) (by kernel_rfl) (by walk_at "lk") ?_
  with_reducible refine WEs.nil ?_
  refine WCall.of_fn (told_c 6 h12 (by rw [nms']; exact C12.nn) (by omega) fun B2 ts2 σ13 T2 e2 => ?_)
  have C13 := C12.ext e2
  have h13 := h12.keep ⟨fun a o q => e2 _ _ q⟩
  have w13 := w12.keep ⟨fun a o q => e2 _ _ q⟩
  have H13 := H12.kp fun a t o q _ _ _ _ => e2 _ _ q
  have F13 := F12.oth (σ' := σ13) (fun q => e2 _ _ q) (fun q => e2 _ _ q)
  with_reducible refine WE.localA (by kernel_rfl) (by kernel_rfl) (by walk_at "lk") ?_
  refine WC.ne (Nat.succ_le_succ (Nat.zero_le _)) (by decide) (told_eq T2 F13 rfl).2 ?_
  clear C12 h12 w12 H12 F12 T2 e2 hW12
  have hC13 : σ13 C = some (4, .inst a_Wheel [("past", .int past), ("sharers", .ref dC)]) := w13.whl
  obtain ⟨bC, ewho⟩ := best_core w13.nn cC hb
  have shC := core_sh cC sh
  with_reducible refine WTr.bool ?_
  with_reducible refine if_ff ?_
  with_reducible refine WA.or ?_
  with_reducible refine WT.cmp1 rfl ?_
  with_reducible refine WE.method (by walk_at "u") rfl rfl rfl ?_
  with_reducible refine WE.localA (by kernel_rfl) (by kernel_rfl) (by walk_at "lk") ?_
  with_reducible refine WM.inst (by walk_at "hp") ms_Wheel_turn (by kernel_rfl) ?_
  with_reducible refine And.intro (Callee.meth ms_Wheel_turn) ?_
  with_reducible refine WEs.nil ?_
  refine WCall.of_fn (turnA_c w13 (by omega) bC shC fun σ14 w14 o14 => ?_)
  rw [ewho]
  with_reducible refine WE.localA (by kernel_rfl) (by kernel_rfl) (by walk_at "lk") ?_
  refine neWho ?_
  rw [aftP_core cC, hP] at w14
  have C14 := C13.oth o14 (Or.inr (Or.inl rfl))
  have h14 := h13.keep (o14.kpt (by decide))
  have H14 := H13.kp fun a t o q _ h4 _ _ => o14.at q h4
  have F14 := F13.oth (σ' := σ14) (fun q => o14.at q (by decide)) (fun q => o14.at q (by decide))
  clear C13 h13 w13 H13 F13 o14 hC13
  have shC' := aftL_sh shC f
  have nmC : (aftL lC f).map (·.name) = l.map (·.name) := (aftL_names lC f).trans (core_name cC)
  generalize aftL lC f = m at w14 shC' nmC ⊢
  clear bC ewho shC cC lCl hP hb hz' r7
  have hlen : (l.map (·.name)).length = l.length := List.length_map ..
  have mlen : m.length = l.length := by have := congrArg List.length nmC; rwa [List.length_map, List.length_map] at this
  have hC14 : σ14 C = some (4, .inst a_Wheel [("past", .int past'), ("sharers", .ref dC)]) := w14.whl
  obtain ⟨x0, hx0, hn0⟩ := nm_at nmC (k := 0) (by omega)
  have hy0 : l[0]? = some l[0] := List.getElem?_eq_getElem hp
  generalize l[0] = y0 at hy0
  obtain ⟨g0, g1⟩ := shC' x0 (List.mem_of_getElem? hx0)
  have hB14 := C14.to.lst
  have hN14 := C14.nn
  obtain ⟨t0, ht0, htu0⟩ := all2_at C14.to.tup (k := 0) (b := tri y0) (by rw [List.getElem?_map, hy0]; rfl)
  have htu0' : σ14 t0 = some (7, .tuple [.int y0.clock, .bool y0.ready, .int y0.share]) := htu0
  have i0 : ((l.map (·.name)).map MV.str)[Int.toNat 0]? = some (.str x0.name) := by rw [List.getElem?_map]; exact congrArg (Option.map MV.str) hn0
  have j0 : (ts.map MV.ref)[Int.toNat 0]? = some (.ref t0) := by rw [List.getElem?_map]; exact congrArg (Option.map MV.ref) ht0
  have hy : 1 ≤ y0.share ∧ y0.share ≤ 12 := sh y0 (List.mem_of_getElem? hy0)
  with_reducible refine WTr.bool ?_
  with_reducible refine if_ff ?_
  with_reducible refine WA.or ?_
  with_reducible refine WT.cmp1 rfl ?_
  with_reducible refine WE.attr (by walk_at "u") ?_
  with_reducible refine WE.localA (by kernel_rfl) (by kernel_rfl) (by walk_at "lk") ?_
  with_reducible refine WGet.inst (by walk_at "hp") (by kernel_rfl) (by walk_at "fl") (by with_unfolding_all rfl) ?_
  with_reducible refine WE.localA (by kernel_rfl) (by kernel_rfl) (by walk_at "lk") ?_
  with_reducible refine WC.neI ?_
  with_reducible refine WTr.bool ?_
  with_reducible refine if_nf' (by walk_at "as") ?_
  with_reducible refine WA.or_nil ?_
  with_reducible refine if_ff ?_
  with_reducible refine WSs.nil ?_
  with_reducible refine WSs.cons ?_
  with_reducible refine WS.expr (by walk_at "u") ?_
  with_reducible refine WE.method (by walk_at "u") rfl rfl rfl ?_
  with_reducible refine WE.localA (by kernel_rfl) (by kernel_rfl) (by walk_at "lk") ?_
  with_reducible refine WM.inst (by walk_at "hp") ms_Wheel_reshare (by kernel_rfl) ?_
  with_reducible refine And.intro (Callee.meth ms_Wheel_reshare) ?_
  with_reducible refine WEs.cons rfl ?_
  with_reducible refine WE.sub ?_
  with_reducible refine WE.localA (by kernel_rfl) (by kernel_rfl) (by walk_at "lk") ?_
  with_reducible refine WE.int ?_
  with_reducible refine WSub.list (by walk_at "u") (by walk_at "la") (by walk_at "ar") (by walk_at "ar") (by walk_at "as") ?_
  with_reducible refine WEs.cons rfl ?_
  with_reducible refine WE.binop ?_
  with_reducible refine WE.int ?_
  with_reducible refine WE.sub ?_
  with_reducible refine WE.sub ?_
  with_reducible refine WE.localA (by kernel_rfl) (by kernel_rfl) (by walk_at "lk") ?_
  with_reducible refine WE.int ?_
  with_reducible refine WSub.list (by walk_at "u") (by walk_at "la") (by walk_at "ar") (by walk_at "ar") (by walk_at "as") ?_
  with_reducible refine WE.int ?_
  refine WSub.tuple (by walk_at "u") htu0' (by decide) (by decide) rfl ?_
  with_reducible refine WB.sub ?_
  with_reducible refine WEs.nil ?_
  refine WCall.of_fn (reshare_c (x := x0) w14 hx0 (by omega) (by omega) g0 g1 fun σ15 w15 o15 => ?_)
  have C15 := C14.oth o15 (Or.inr (Or.inl rfl))
  have h15 := h14.keep (o15.kpt (by decide))
  have H15 := H14.kp fun a t o q _ h4 _ _ => o15.at q h4
  have F15 := F14.oth (σ' := σ15) (fun q => o15.at q (by decide)) (fun q => o15.at q (by decide))
  have m15 : (m.set 0 (shared past' (13 - y0.share) x0)).map (·.name) = l.map (·.name) := by rw [← nmC]; exact map_set_same _ hx0 rfl
  have q15 : (m.set 0 (shared past' (13 - y0.share) x0))[0]? = some (shared past' (13 - y0.share) x0) := List.getElem?_set_self (by omega)
  generalize m.set 0 (shared past' (13 - y0.share) x0) = m2 at w15 m15 q15 ⊢
  clear C14 h14 w14 H14 F14 o15 hC14 hB14 hN14 htu0 htu0' hx0 nmC mlen shC'
  have hC15 : σ15 C = some (4, .inst a_Wheel [("past", .int past'), ("sharers", .ref dC)]) := w15.whl
  have hN15 := C15.nn
  with_reducible refine WSs.cons ?_
  with_reducible refine WS.expr (by walk_at "u") ?_
  with_reducible refine WE.method (by walk_at "u") rfl rfl rfl ?_
  with_reducible refine WE.localA (by kernel_rfl) (by kernel_rfl) (by walk_at "lk") ?_
  with_reducible refine WM.inst (by walk_at "hp") ms_Wheel_rest (by kernel_rfl) ?_
  with_reducible refine And.intro (Callee.meth ms_Wheel_rest) ?_
  with_reducible refine WEs.cons rfl ?_
  with_reducible refine WE.sub ?_
  with_reducible refine WE.localA (by kernel_rfl) (by kernel_rfl) (by walk_at "lk") ?_
  with_reducible refine WE.int ?_
  with_reducible refine WSub.list (by walk_at "u") (by walk_at "la") (by walk_at "ar") (by walk_at "ar") (by walk_at "as") ?_
  with_reducible refine WEs.nil ?_
  refine WCall.of_fn (rest_c (x := shared past' (13 - y0.share) x0) w15 q15 fun σ16 w16 o16 => ?_)
  have C16 := C15.oth o16 (Or.inr (Or.inl rfl))
  have h16 := h15.keep (o16.kpt (by decide))
  have H16 := H15.kp fun a t o q _ h4 _ _ => o16.at q h4
  have F16 := F15.oth (σ' := σ16) (fun q => o16.at q (by decide)) (fun q => o16.at q (by decide))
  have m16 : (m2.set 0 { shared past' (13 - y0.share) x0 with ready := false }).map (·.name) = l.map (·.name) := by rw [← m15]; exact map_set_same _ q15 rfl
  generalize m2.set 0 { shared past' (13 - y0.share) x0 with ready := false } = m3 at w16 m16 ⊢
  clear C15 h15 w15 H15 F15 o16 hC15 hN15 q15 m15
  have hC16 : σ16 C = some (4, .inst a_Wheel [("past", .int past'), ("sharers", .ref dC)]) := w16.whl
  have hN16 := C16.nn
  have k16 : ((l.length - 1 : Nat) : Int) = (l.length : Int) - 1 := by omega
  obtain ⟨x1, hx1, hn1⟩ := nm_at m16 (k := l.length - 1) (by omega)
  have i1 : ((l.map (·.name)).map MV.str)[((l.length : Int) - 1).toNat]? = some (.str x1.name) := by rw [← k16, Int.toNat_natCast, List.getElem?_map, hn1]; rfl
  have i1a : 0 ≤ (l.length : Int) - 1 := by omega
  have i1b : (l.length : Int) - 1 < 2 ^ 63 := by omega
  have elen : (((l.map (·.name)).map MV.str).length : Int) = (l.length : Int) := by simp
  with_reducible refine WSs.cons ?_
  with_reducible refine WS.expr (by walk_at "u") ?_
  with_reducible refine WE.method (by walk_at "u") rfl rfl rfl ?_
  with_reducible refine WE.localA (by kernel_rfl) (by kernel_rfl) (by walk_at "lk") ?_
  with_reducible refine WM.inst (by walk_at "hp") ms_Wheel_wake (by kernel_rfl) ?_
  with_reducible refine And.intro (Callee.meth ms_Wheel_wake) ?_
  with_reducible refine WEs.cons rfl ?_
  with_reducible refine WE.sub ?_
  with_reducible refine WE.localA (by kernel_rfl) (by kernel_rfl) (by walk_at "lk") ?_
  with_reducible refine WE.binop ?_
  with_reducible refine WE.call rfl rfl ?_
  with_reducible refine WE.globalA (by kernel_rfl) g_len ?_
  with_reducible refine And.intro (Callee.con rfl) ?_
  with_reducible refine WEs.cons rfl ?_
  with_reducible refine WE.localA (by kernel_rfl) (by kernel_rfl) (by walk_at "lk") ?_
  with_reducible refine WEs.nil ?_
  refine WCall.lenList (ListAt.own hN16) (by simp; omega) ?_
  rw [elen]
  with_reducible refine WE.int ?_
  with_reducible refine WB.sub ?_
  with_reducible refine WSub.list (by walk_at "u") (by walk_at "la") (by walk_at "ar") (by walk_at "ar") (by walk_at "as") ?_
  with_reducible refine WEs.nil ?_
  refine WCall.of_fn (wake_c (x := x1) w16 hx1 fun σ17 w17 o17 => ?_)
  have C17 := C16.oth o17 (Or.inr (Or.inl rfl))
  have h17 := h16.keep (o17.kpt (by decide))
  have H17 := H16.kp fun a t o q _ h4 _ _ => o17.at q h4
  have F17 := F16.oth (σ' := σ17) (fun q => o17.at q (by decide)) (fun q => o17.at q (by decide))
  have m17 : (m3.set (l.length - 1) (woken past' x1)).map (·.name) = l.map (·.name) := by rw [← m16]; exact map_set_same _ hx1 (by unfold woken; split <;> rfl)
  generalize m3.set (l.length - 1) (woken past' x1) = m4 at w17 m17 ⊢
  clear C16 h16 w16 H16 F16 o17 hC16 hN16 m16
  have hC17 : σ17 C = some (4, .inst a_Wheel [("past", .int past'), ("sharers", .ref dC)]) := w17.whl
  have hN17 := C17.nn
  have k17 : (l.length : Int).fdiv 2 = ((l.length / 2 : Nat) : Int) := by rw [Int.fdiv_eq_ediv_of_nonneg _ (by decide)]; omega
  obtain ⟨x2, hx2, hn2⟩ := nm_at m17 (k := l.length / 2) (by omega)
  have i2 : ((l.map (·.name)).map MV.str)[((l.length : Int).fdiv 2).toNat]? = some (.str x2.name) := by rw [k17, Int.toNat_natCast, List.getElem?_map, hn2]; rfl
  have i2a : 0 ≤ (l.length : Int).fdiv 2 := by omega
  have i2b : (l.length : Int).fdiv 2 < 2 ^ 63 := by omega
  have m4l : m4.length = l.length := by have := congrArg List.length m17; rwa [List.length_map, List.length_map] at this
  with_reducible refine WSs.cons ?_
  with_reducible refine WS.expr (by walk_at "u") ?_
  with_reducible refine WE.method (by walk_at "u") rfl rfl rfl ?_
  with_reducible refine WE.localA (by kernel_rfl) (by kernel_rfl) (by walk_at "lk") ?_
  with_reducible refine WM.inst (by walk_at "hp") ms_Wheel_leave (by kernel_rfl) ?_
  with_reducible refine And.intro (Callee.meth ms_Wheel_leave) ?_
  with_reducible refine WEs.cons rfl ?_
  with_reducible refine WE.sub ?_
  with_reducible refine WE.localA (by kernel_rfl) (by kernel_rfl) (by walk_at "lk") ?_
  with_reducible refine WE.binop ?_
  with_reducible refine WE.call rfl rfl ?_
  with_reducible refine WE.globalA (by kernel_rfl) g_len ?_
  with_reducible refine And.intro (Callee.con rfl) ?_
  with_reducible refine WEs.cons rfl ?_
  with_reducible refine WE.localA (by kernel_rfl) (by kernel_rfl) (by walk_at "lk") ?_
  with_reducible refine WEs.nil ?_
  refine WCall.lenList (ListAt.own hN17) (by simp; omega) ?_
  rw [elen]
  with_reducible refine WE.int ?_
  with_reducible refine WB.div (by walk_at "ar") (by walk_at "ar") ?_
  with_reducible refine WSub.list (by walk_at "u") (by walk_at "la") (by walk_at "ar") (by walk_at "ar") (by walk_at "as") ?_
  with_reducible refine WEs.nil ?_
  refine WCall.of_fn (leave_c (x := x2) w17 (by omega) hx2 fun σ18 w18 o18 => ?_)
  have C18 := C17.oth o18 (Or.inr (Or.inl rfl))
  have h18 := h17.keep (o18.kpt (by decide))
  have H18 := H17.kp fun a t o q _ h4 _ _ => o18.at q h4
  have F18 := F17.oth (σ' := σ18) (fun q => o18.at q (by decide)) (fun q => o18.at q (by decide))
  have hno : ("one more" : Str) ∉ (m4.eraseIdx (l.length / 2)).map (·.name) := fun q => one (by
    obtain ⟨z, hz1, hz2⟩ := List.mem_map.mp q
    rw [← m17, ← hz2]
    exact List.mem_map.mpr ⟨z, List.mem_of_mem_eraseIdx hz1, rfl⟩)
  have m5l : (m4.eraseIdx (l.length / 2)).length ≤ 1000000 := Nat.le_trans (List.length_eraseIdx_le ..) (by omega)
  generalize m4.eraseIdx (l.length / 2) = m5 at w18 hno m5l ⊢
  clear C17 h17 w17 H17 F17 o18 hC17 hN17
  have hC18 : σ18 C = some (4, .inst a_Wheel [("past", .int past'), ("sharers", .ref dC)]) := w18.whl
  with_reducible refine WSs.cons ?_
  with_reducible refine WS.expr (by walk_at "u") ?_
  with_reducible refine WE.method (by walk_at "u") rfl rfl rfl ?_
  with_reducible refine WE.localA (by kernel_rfl) (by kernel_rfl) (by walk_at "lk") ?_
  with_reducible refine WM.inst (by walk_at "hp") ms_Wheel_enter (by kernel_rfl) ?_
  with_reducible refine And.intro (Callee.meth ms_Wheel_enter) ?_
  with_reducible refine WEs.cons rfl ?_
  with_reducible refine WE.str ?_
  with_reducible refine WEs.cons rfl ?_
  with_reducible refine WE.int ?_
  with_reducible refine WEs.nil ?_
  refine WCall.of_fn (enter_c w18 hno (by decide) (by decide) m5l fun a19 σ19 w19 o19 => ?_)
  have C19 := C18.oth o19 (Or.inr (Or.inl rfl))
  have h19 := h18.keep (o19.kpt (by decide))
  have H19 := H18.kp fun a t o q _ h4 _ _ => o19.at q h4
  have F19 := F18.oth (σ' := σ19) (fun q => o19.at q (by decide)) (fun q => o19.at q (by decide))
  clear C18 h18 w18 H18 F18 o19 hC18 w19
  have hW19 : σ19 W = some (1, .inst a_Wheel [("past", .int past'), ("sharers", .ref d)]) := h19.whl
  with_reducible refine WSs.cons ?_
  with_reducible refine WS.ret ?_
  with_reducible refine WE.and ?_
  with_reducible refine WE.cmp1 rfl ?_
  with_reducible refine WE.attr (by walk_at "u") ?_
  with_reducible refine WE.localA (by kernel_rfl) (by kernel_rfl) (by walk_at "lk") ?_
  with_reducible refine WGet.inst (by walk_at "hp") (by kernel_rfl) (by walk_at "fl") (by with_unfolding_all rfl) ?_
  with_reducible refine WE.localA (by kernel_rfl) (by kernel_rfl) (by walk_at "lk") ?_
  with_reducible refine WC.eqI ?_
  with_reducible refine WTr.bool ?_
  with_reducible refine if_et (by walk_at "as") ?_
  with_reducible refine WE.and ?_
  with_reducible refine WE.cmp1 rfl ?_
  with_reducible refine WE.call rfl rfl ?_
  with_reducible refine WE.globalA (by kernel_rfl) g_law_told ?_
  with_reducible refine And.intro (Callee.fn fn_law_told) ?_
  with_reducible refine WEs.cons rfl ?_
  with_reducible refine WE.localA (by kernel_rfl) (by kernel_rfl) (by walk_at "lk") ?_
  with_reducible refine WEs.cons rfl ?_
  with_reducible refine WE.localA (by kernel_rfl) (by kernel_rfl) (by walk_at "lk") ?_
  with_reducible refine WEs.nil ?_
  refine WCall.of_fn (told_c 6 h19 (by rw [nms']; exact C19.nn) (by omega) fun B2 ts2 σ20 T2 e2 => ?_)
  have C20 := C19.ext e2
  have h20 := h19.keep ⟨fun a o q => e2 _ _ q⟩
  have H20 := H19.kp fun a t o q _ _ _ _ => e2 _ _ q
  have F20 := F19.oth (σ' := σ20) (fun q => e2 _ _ q) (fun q => e2 _ _ q)
  have hW20 := e2 _ _ hW19
  with_reducible refine WE.localA (by kernel_rfl) (by kernel_rfl) (by walk_at "lk") ?_
  refine WC.eq (Nat.succ_le_succ (Nat.zero_le _)) (by decide) (told_eq T2 F20 rfl).1 ?_
  with_reducible refine WTr.bool ?_
  with_reducible refine if_tt ?_
  with_reducible refine WE.and1 ?_
  with_reducible refine WE.cmp1 rfl ?_
  with_reducible refine WE.method (by walk_at "u") rfl rfl rfl ?_
  with_reducible refine WE.localA (by kernel_rfl) (by kernel_rfl) (by walk_at "lk") ?_
  with_reducible refine WM.inst (by walk_at "hp") ms_Wheel_names (by kernel_rfl) ?_
  with_reducible refine And.intro (Callee.meth ms_Wheel_names) ?_
  with_reducible refine WEs.nil ?_
  refine WCall.of_fn (names_c 9 h20 (by omega) fun b hb21 => ?_)
  have C21 := C20.ext (σ' := σ20.put b 9 (.list ((l'.map (·.name)).map .str))) fun a p q => Hp.new hb21.none q
  have h21 := h20.keep (σ' := σ20.put b 9 (.list ((l'.map (·.name)).map .str))) (Kpt.new hb21.none)
  have H21 := H20.kp (σ' := σ20.put b 9 (.list ((l'.map (·.name)).map .str))) fun a t o q _ _ _ _ => Hp.new hb21.none q
  with_reducible refine WE.localA (by kernel_rfl) (by kernel_rfl) (by walk_at "lk") ?_
  refine WC.eq (Nat.succ_le_succ (Nat.zero_le _)) (by decide) (names_eq (ListAt.own Hp.self) (ListAt.own C21.nn) nms').1 ?_
  skip
  exact hq past' l' _ _ h21 nms' sh' H21 C21.hh C21.kp
def lawPost : MF → Lo → Hp → Prop := fun m _ _ => m = .ret (.bool true)
theorem WTgs.nil {c : Cx} {i : Ix} {ρ : Lo} {Q : Lo → Hp → Prop} {X : SX} {σ : Hp} (h : Q ρ σ) : WTgs c i [] [] ρ Q X σ := h
theorem WTgs.name {c : Cx} {i : Ix} {x : Str} {px : Pos} {es : List Expr} {v : MV} {vs : List MV} {ρ : Lo} {Q : Lo → Hp → Prop} {X : SX} {σ : Hp} (h : WSt c i x v ρ (fun ρ₁ σ₁ => WTgs c i es vs ρ₁ Q X σ₁) X σ) : WTgs c i (.Name x px :: es) (v :: vs) ρ Q X σ := WTg.name h
theorem cell_c {a : Nat} {ns : List Int} {k : Int} (hl : ListAt σ a (ns.map .int)) (hz : ns.length ≤ 63) (h0 : 0 ≤ k) (hk : k < 2 ^ 63) (hq : Q (.int (ns.getD k.toNat 0)) σ) : WFn (cx w mean mg mb) ⟨n + 1, true, sc⟩ a_law_cell_at [.ref a, .int k] ρ Q X σ := by
  refine WFn.fn2 (p1 := "_law_script") (p2 := "_law_k") ⟨⟨_, _, _, _, _, _, _, _, _, _, _, _, _, (rfl : (Mine.hd.heap_39 w.params).lookup a_law_cell_at = _), by kernel_rfl, us2 fun _ _ => rfl⟩, by kernel_rfl⟩ ?_
  with_reducible refine WSs.cons ?_
  with_reducible refine WS.ite ?_
  with_reducible refine WT.cmp1 rfl ?_
  with_reducible refine WE.localA (by kernel_rfl) (by kernel_rfl) (by walk_at "lk") ?_
  with_reducible refine WE.call rfl rfl ?_
  with_reducible refine WE.globalA (by kernel_rfl) g_len ?_
  with_reducible refine And.intro (Callee.con rfl) ?_
  with_reducible refine WEs.cons rfl ?_
  with_reducible refine WE.localA (by kernel_rfl) (by kernel_rfl) (by walk_at "lk") ?_
  with_reducible refine WEs.nil ?_
  refine WCall.lenList hl (mapLe (Nat.le_trans hz (by decide))) ?_
  by_cases hlt : k < ((ns.map MV.int).length : Int)
  · have hl' : k.toNat < ns.length := by simp at hlt; omega
    have hx : (ns.map MV.int)[k.toNat]? = some (.int (ns.getD k.toNat 0)) := by
      simp [List.getElem?_eq_getElem hl', List.getD]
    with_reducible refine WC.lt ?_
    with_reducible refine WTr.bool ?_
    with_reducible refine if_dt (by walk_at "as") ?_
    with_reducible refine WSs.cons ?_
    with_reducible refine WS.ret ?_
    with_reducible refine WE.sub ?_
    with_reducible refine WE.localA (by kernel_rfl) (by kernel_rfl) (by walk_at "lk") ?_
    with_reducible refine WE.localA (by kernel_rfl) (by kernel_rfl) (by walk_at "lk") ?_
    with_reducible refine WSub.list (by walk_at "u") (by walk_at "la") (by walk_at "ar") (by walk_at "ar") (by walk_at "as") ?_
    exact hq
  · skip
    with_reducible refine WC.lt ?_
    with_reducible refine WTr.bool ?_
    with_reducible refine if_df (by walk_at "as") ?_
    with_reducible refine WSs.nil ?_
    with_reducible refine WSs.cons ?_
    with_reducible refine WS.ret ?_
    with_reducible refine WE.int ?_
    have hl' : ns.length ≤ k.toNat := by simp at hlt; omega
    have : ns.getD k.toNat 0 = 0 := by simp [List.getD, List.getElem?_eq_none hl']
    rw [this] at hq
    exact hq
theorem nodup_set {α : Type} : ∀ {l : List α} {k : Nat} {a : α}, l.Nodup → a ∉ l → (l.set k a).Nodup
  | [], _, _, h, _ => h
  | x :: l, 0, a, h, n => List.nodup_cons.mpr ⟨fun q => n (List.mem_cons_of_mem _ q), (List.nodup_cons.mp h).2⟩
  | x :: l, k + 1, a, h, n => by
    rw [List.set_cons_succ]
    obtain ⟨h1, h2⟩ := List.nodup_cons.mp h
    refine List.nodup_cons.mpr ⟨fun q => ?_, nodup_set h2 fun q => n (List.mem_cons_of_mem _ q)⟩
    rcases List.mem_or_eq_of_mem_set q with q | q
    · exact h1 q
    · exact n (q ▸ List.mem_cons_self ..)
def nm4 (k : Nat) : Str := repS "q" ((k : Int).fmod 5).toNat ++ Str.ofString (toString (k : Int))
theorem nm4_nodup : ((List.range 47).map nm4).Nodup := of_decide_eq_true (by kernel_rfl)
theorem nm4_out : ((List.range 47).all fun k => decide (nm4 k ≠ "one more") && decide (nm4 k ≠ "")) = true := by kernel_rfl
theorem nm4_len : ((List.range 47).all fun k => decide ((repS "q" ((k : Int).fmod 5).toNat).length ≤ 5) && decide ((Str.ofString (toString (k : Int))).length ≤ 5)) = true := by kernel_rfl
theorem nm4_take {m : Nat} (h : m ≤ 47) : ((List.range m).map nm4).Nodup := by
  have e : (List.range m).map nm4 = ((List.range 47).map nm4).take m := by
    rw [← List.map_take, List.take_range, Nat.min_eq_left h]
  rw [e]
  exact List.Nodup.sublist (List.take_sublist ..) nm4_nodup
theorem nm4_not {m : Nat} (h : m ≤ 47) : ("one more" : Str) ∉ (List.range m).map nm4 ∧ ("" : Str) ∉ (List.range m).map nm4 := by
  have key : ∀ k ∈ List.range m, nm4 k ≠ "one more" ∧ nm4 k ≠ "" := fun k hk => by
    have := List.all_eq_true.mp nm4_out k (List.mem_range.mpr (Nat.lt_of_lt_of_le (List.mem_range.mp hk) h))
    rw [Bool.and_eq_true] at this
    exact ⟨of_decide_eq_true this.1, of_decide_eq_true this.2⟩
  constructor
  · intro q
    obtain ⟨k, hk, e⟩ := List.mem_map.mp q
    exact (key k hk).1 e
  · intro q
    obtain ⟨k, hk, e⟩ := List.mem_map.mp q
    exact (key k hk).2 e
theorem sub4_at {ns : List Int} {j : Nat} {v : MV} (h : (((ns.map MV.int).take 42).drop 2 ++ [.int 3, .int 3, .int 3])[j]? = some v) : ∃ c, v = .int c := by
  rcases List.mem_append.mp (List.mem_of_getElem? h) with q | q
  · obtain ⟨c, _, e⟩ := List.mem_map.mp (List.mem_of_mem_take (List.mem_of_mem_drop q))
    exact ⟨c, e.symm⟩
  · simp at q
    exact ⟨3, q⟩
theorem len4 {l : List MV} : ((l.take 42).drop 2 ++ [MV.int 3, .int 3, .int 3]).length ≤ 45 := by
  rw [List.length_append, List.length_drop, List.length_take]
  simp
  omega
theorem law_A0 : ∃ body scope, FnAt (cx w mean mg mb) a_law ["_law_script"] body scope ∧ ∀ (l0 : Nat) (ns : List Int) (ol : Obj), ns.length ≤ 63 →
    WSs (cx w mean mg mb) ⟨200, true, scope⟩ body (bindLo ["_law_script"] [.ref l0] fun _ => Option.none) lawPost noSX (lawHp l0 ns ol) := by
  refine ⟨_, _, ⟨⟨_, _, _, _, _, _, _, _, _, _, _, _, _, (rfl : (Mine.hd.heap_39 w.params).lookup a_law = _), by kernel_rfl, us1 fun _ => rfl⟩, by kernel_rfl⟩, ?_⟩
  intro l0 ns ol hz
  change WSs _ _ _ (ρ0.put "_law_script" (.ref l0)) _ _ _
  have hs : (lawHp l0 ns ol) l0 = some (0, .klist (ns.map .int) ol) := if_pos rfl
  generalize lawHp l0 ns ol = σ at hs ⊢
  with_reducible refine WSs.cons ?_
  with_reducible refine WS.assign (by walk_at "u") ?_
  with_reducible refine WE.call rfl rfl ?_
  with_reducible refine WE.globalA (by kernel_rfl) g_law_cell_at ?_
  with_reducible refine And.intro (Callee.fn fn_law_cell_at) ?_
  with_reducible refine WEs.cons rfl ?_
  with_reducible refine WE.localA (by kernel_rfl) (by kernel_rfl) (by walk_at "lk") ?_
  with_reducible refine WEs.cons rfl ?_
  with_reducible refine WE.int ?_
  with_reducible refine WEs.nil ?_
  refine WCall.of_fn (cell_c (ListAt.k hs) hz (by decide) (by decide) ?_)
  generalize ns.getD (Int.toNat 0) 0 = f
  with_reducible refine WSt.localA (by kernel_rfl) ?_
  with_reducible refine WSs.cons ?_
  with_reducible refine WS.assign (by walk_at "u") ?_
  with_reducible refine WE.binop ?_
  with_reducible refine WE.binop ?_
  with_reducible refine WE.int ?_
  with_reducible refine WE.binop ?_
  with_reducible refine WE.localA (by kernel_rfl) (by kernel_rfl) (by walk_at "lk") ?_
  with_reducible refine WE.int ?_
  with_reducible refine WB.mod (by walk_at "ar") ?_
  with_reducible refine WB.add ?_
  with_reducible refine WE.binop ?_
  with_reducible refine WE.int ?_
  with_reducible refine WE.call rfl rfl ?_
  with_reducible refine WE.globalA (by kernel_rfl) g_int ?_
  with_reducible refine And.intro (Callee.con rfl) ?_
  with_reducible refine WEs.cons rfl ?_
  with_reducible refine WE.cmp1 rfl ?_
  with_reducible refine WE.binop ?_
  with_reducible refine WE.binop ?_
  with_reducible refine WE.localA (by kernel_rfl) (by kernel_rfl) (by walk_at "lk") ?_
  with_reducible refine WE.int ?_
  with_reducible refine WB.div (by walk_at "ar") (by walk_at "ar") ?_
  with_reducible refine WE.int ?_
  with_reducible refine WB.mod (by walk_at "ar") ?_
  with_reducible refine WE.int ?_
  with_reducible refine WC.eqI ?_
  with_reducible refine WEs.nil ?_
  refine WCall.intB ?_
  have hm : ∀ b : Bool, 1 ≤ 1 + f.fmod 7 + 40 * (if b = true then 1 else 0) ∧ 1 + f.fmod 7 + 40 * (if b = true then 1 else 0) ≤ 47 := fun b => by
    have h0 := fmod_ge f (show (1 : Int) ≤ 7 by decide)
    have h1 := fmod_lt f (show (1 : Int) ≤ 7 by decide)
    cases b <;> simp <;> omega
  have hmm := hm ((f.fdiv 7).fmod 6 == 1)
  with_reducible refine WB.mul (IntMulOk.of_left (by decide)) ?_
  with_reducible refine WB.add ?_
  with_reducible refine WSt.localA (by kernel_rfl) ?_
  with_reducible refine WSs.cons ?_
  with_reducible refine WS.assign (by walk_at "u") ?_
  with_reducible refine WE.call rfl rfl ?_
  with_reducible refine WE.globalA (by kernel_rfl) g_Wheel ?_
  with_reducible refine And.intro (Callee.cls mi_Wheel) ?_
  with_reducible refine WEs.nil ?_
  generalize 1 + f.fmod 7 + 40 * (if ((f.fdiv 7).fmod 6 == 1) = true then 1 else 0) = m at hmm ⊢
  obtain ⟨h1, h6⟩ := hmm
  clear hm
  have hm00 : 0 ≤ m := Int.le_trans (by decide) h1
  have hm01 : m ≤ 1000000 := Int.le_trans h6 (by decide)
  have hmn : m.toNat ≤ 47 := by omega
  have m0 : m ≠ 0 := by omega
  refine WCall.of_fn (make_wheel 1 fun W d σ2 hw hk => ?_)
  have hs2 := hk _ _ hs
  clear hk hs
  with_reducible refine WSt.localA (by kernel_rfl) ?_
  with_reducible refine WSs.cons ?_
  refine WS.assignComp 2 rfl (by walk_at "u") (by kernel_rfl) ?_ (by kernel_rfl) (by kernel_rfl) ?_
  · first | walk_at "lk" | ((repeat (refine Lo.put_ne (by kernel_rfl) ?_)); rfl)
  with_reducible refine WE.call rfl rfl ?_
  with_reducible refine WE.globalA (by kernel_rfl) g_range ?_
  with_reducible refine And.intro (Callee.con rfl) ?_
  with_reducible refine WEs.cons rfl ?_
  with_reducible refine WE.localA (by kernel_rfl) (by kernel_rfl) (by walk_at "lk") ?_
  with_reducible refine WEs.nil ?_
  refine WCall.range1 9 fun b hb => ?_
  refine ⟨_, _, itR Hp.self hm00 hm01, upTo_le hm01, ?_⟩
  refine WComp.upTo (fun k => .str (nm4 k)) (fun k hk K hK => ?_) fun N hN => ?_
  · have hk47 : k < 47 := by omega
    have f0 := fmod_ge (k : Int) (show (1 : Int) ≤ 5 by decide)
    have f1 := fmod_lt (k : Int) (show (1 : Int) ≤ 5 by decide)
    with_reducible refine WE.binop ?_
    with_reducible refine WE.binop ?_
    with_reducible refine WE.str ?_
    with_reducible refine WE.binop ?_
    with_reducible refine WE.localA (by kernel_rfl) (by kernel_rfl) (by walk_at "lk") ?_
    with_reducible refine WE.int ?_
    with_reducible refine WB.mod (by walk_at "ar") ?_
    refine WB.mulS f0 (by omega) (show 1 ≤ 1000 by decide) ?_
    with_reducible refine WE.call rfl rfl ?_
    with_reducible refine WE.globalA (by kernel_rfl) g_str ?_
    with_reducible refine And.intro (Callee.con rfl) ?_
    with_reducible refine WEs.cons rfl ?_
    with_reducible refine WE.localA (by kernel_rfl) (by kernel_rfl) (by walk_at "lk") ?_
    with_reducible refine WEs.nil ?_
    refine WCall.strI (Nat.lt_of_le_of_lt (Nat.log2_le_self k) (Nat.lt_trans hk47 (by decide))) ?_
    skip
    refine WB.addS ?_ ?_
    · have := List.all_eq_true.mp nm4_len k (List.mem_range.mpr hk47)
      rw [Bool.and_eq_true] at this
      exact size_ok (Nat.le_trans (Nat.add_le_add (of_decide_eq_true this.1) (of_decide_eq_true this.2)) (by decide))
    · exact hK
  have hw3 : WheelD ((σ2.put b 9 (.range 0 m)).put N 2 (.list (tabl m fun k => .str (nm4 k)))) W d 1 0 [] := (hw.keep (Kpt.new hb.none)).keep (Kpt.new hN)
  have hs3 : ((σ2.put b 9 (.range 0 m)).put N 2 (.list (tabl m fun k => .str (nm4 k)))) l0 = _ := Hp.new hN (Hp.new hb.none hs2)
  have hN3 : ((σ2.put b 9 (.range 0 m)).put N 2 (.list (tabl m fun k => .str (nm4 k)))) N = _ := Hp.self
  generalize (σ2.put b 9 (.range 0 m)).put N 2 (.list (tabl m fun k => .str (nm4 k))) = σ3 at hw3 hs3 hN3 ⊢
  clear hb hN hw hs2
  have eN : tabl m (fun k => MV.str (nm4 k)) = ((List.range m.toNat).map nm4).map .str := by unfold tabl; rw [List.map_map]; rfl
  rw [eN] at hN3
  have hNm : ((List.range m.toNat).map nm4).length = m.toNat := by rw [List.length_map, List.length_range]
  have hNd := nm4_take hmn
  have hNo := nm4_not hmn
  generalize (List.range m.toNat).map nm4 = NL at hN3 hNm hNd hNo
  clear eN
  refine WSs.split (fun ρ1 σ1 => (∃ nms : List Str, σ1 N = some (2, .list (nms.map .str)) ∧ nms.length = m.toNat ∧ nms.Nodup ∧ ("one more" : Str) ∉ nms) ∧ WheelD σ1 W d 1 0 [] ∧ σ1 l0 = some (0, .klist (ns.map .int) ol) ∧ ρ1 "_law_script" = some (.ref l0) ∧ ρ1 "_law_wheel" = some (.ref W) ∧ ρ1 "_law_names" = some (.ref N) ∧ ρ1 "_law_first" = some (.int f) ∧ ρ1 "_law_many" = some (.int m)) ?_ ?_
  · by_cases c1 : f.fmod 3 = 1
    · have i0 := fmod_ge (f.fdiv 3) h1
      have i1 := fmod_lt (f.fdiv 3) h1
      with_reducible refine WS.ite ?_
      with_reducible refine WT.cmp1 rfl ?_
      with_reducible refine WE.binop ?_
      with_reducible refine WE.localA (by kernel_rfl) (by kernel_rfl) (by walk_at "lk") ?_
      with_reducible refine WE.int ?_
      with_reducible refine WB.mod (by walk_at "ar") ?_
      with_reducible refine WE.int ?_
      with_reducible refine WC.eqI ?_
      with_reducible refine WTr.bool ?_
      with_reducible refine if_et (by walk_at "as") ?_
      with_reducible refine WSs.cons ?_
      with_reducible refine WS.setItem (by walk_at "u") ?_
      with_reducible refine WE.str ?_
      with_reducible refine WE.localA (by kernel_rfl) (by kernel_rfl) (by walk_at "lk") ?_
      with_reducible refine WE.binop ?_
      with_reducible refine WE.binop ?_
      with_reducible refine WE.localA (by kernel_rfl) (by kernel_rfl) (by walk_at "lk") ?_
      with_reducible refine WE.int ?_
      with_reducible refine WB.div (by walk_at "ar") (by walk_at "ar") ?_
      with_reducible refine WE.localA (by kernel_rfl) (by kernel_rfl) (by walk_at "lk") ?_
      with_reducible refine WB.mod (by walk_at "ar") ?_
      refine WPut.list hN3 i0 (by rw [List.length_map, hNm]; omega) (by rw [List.length_map, hNm]; omega) ?_
      have e : (NL.map MV.str).set ((f.fdiv 3).fmod m).toNat (.str "") = (NL.set ((f.fdiv 3).fmod m).toNat "").map .str := by rw [map_set']
      rw [e]
      with_reducible refine WSs.nil ?_
      refine ⟨rfl, ⟨_, Hp.self, by rw [List.length_set, hNm], nodup_set hNd hNo.2, fun q => ?_⟩, hw3.keep (Kpt.put hN3 (by decide)), Hp.tag hN3 (by decide) hs3, by walk_at "lk", by walk_at "lk", by walk_at "lk", by walk_at "lk", by walk_at "lk"⟩
      rcases List.mem_or_eq_of_mem_set q with q | q
      · exact hNo.1 q
      · exact absurd q (of_decide_eq_false (by kernel_rfl))
    · skip
      with_reducible refine WS.ite ?_
      with_reducible refine WT.cmp1 rfl ?_
      with_reducible refine WE.binop ?_
      with_reducible refine WE.localA (by kernel_rfl) (by kernel_rfl) (by walk_at "lk") ?_
      with_reducible refine WE.int ?_
      with_reducible refine WB.mod (by walk_at "ar") ?_
      with_reducible refine WE.int ?_
      with_reducible refine WC.eqI ?_
      with_reducible refine WTr.bool ?_
      with_reducible refine if_ef (by walk_at "as") ?_
      with_reducible refine WSs.nil ?_
      exact ⟨rfl, ⟨NL, hN3, hNm, hNd, hNo.1⟩, hw3, hs3, by walk_at "lk", by walk_at "lk", by walk_at "lk", by walk_at "lk", by walk_at "lk"⟩
  clear hNm hNd hNo hN3 hw3 hs3
  rintro ρ1 σ1 ⟨⟨nms, hN3, hNm, hNd, hNo⟩, hw3, hs3, r0, r1, r2, r3, r4⟩
  with_reducible refine WSs.cons ?_
  with_reducible refine WS.for rfl (by walk_at "u") ?_
  with_reducible refine WE.call rfl rfl ?_
  with_reducible refine WE.globalA (by kernel_rfl) g_range ?_
  with_reducible refine And.intro (Callee.con rfl) ?_
  with_reducible refine WEs.cons rfl ?_
  with_reducible refine WE.localA (by kernel_rfl) (by kernel_rfl) (by walk_at "lk") ?_
  with_reducible refine WEs.nil ?_
  refine WCall.range1 9 fun b hb => ?_
  refine ⟨_, _, itR Hp.self hm00 hm01, ?_⟩
  have hw5 : WheelD (σ1.put b 9 (.range 0 m)) W d 1 0 [] := hw3.keep (Kpt.new hb.none)
  have hs5 : (σ1.put b 9 (.range 0 m)) l0 = _ := Hp.new hb.none hs3
  have hN5 : (σ1.put b 9 (.range 0 m)) N = _ := Hp.new hb.none hN3
  generalize σ1.put b 9 (.range 0 m) = σ5 at hw5 hs5 hN5 ⊢
  clear hb hw3 hs3 hN3
  refine WFor.upTo (fun j ρ' σ' => ∃ l, WheelD σ' W d 1 0 l ∧ l.map (·.name) = nms.take j ∧ Sh l ∧ σ' N = some (2, .list (nms.map .str)) ∧ σ' l0 = some (0, .klist (ns.map .int) ol) ∧
    ρ' "_law_script" = some (.ref l0) ∧ ρ' "_law_wheel" = some (.ref W) ∧ ρ' "_law_names" = some (.ref N) ∧ ρ' "_law_first" = some (.int f) ∧ ρ' "_law_many" = some (.int m)) ?_ ?_ ?_
  · exact ⟨[], hw5, by simp, (fun x hx => nomatch hx), hN5, hs5, by walk_at "lk", by walk_at "lk", by walk_at "lk", by walk_at "lk", by walk_at "lk"⟩
  · rintro j ρ' σ' hj ⟨l, hw, hnm, hi, hN, hs, r0, r1, r2, r3, r4⟩
    have jlt : j < nms.length := by omega
    have hlen : l.length = j := by have := congrArg List.length hnm; rw [List.length_map, List.length_take] at this; omega
    have hW : σ' W = some (1, .inst a_Wheel [("past", .int 0), ("sharers", .ref d)]) := hw.whl
    have hx0 : nms[j]? = some nms[j] := List.getElem?_eq_getElem jlt
    generalize nms[j] = nm at hx0
    have x1 : (nms.map MV.str)[(j : Int).toNat]? = some (.str nm) := by rw [Int.toNat_natCast, List.getElem?_map, hx0]; rfl
    have j0 : 0 ≤ (j : Int) := Int.natCast_nonneg j
    have j1 : (j : Int) < 2 ^ 63 := by omega
    have hnot : nm ∉ l.map (·.name) := by
      rw [hnm]
      intro q
      obtain ⟨i, hi⟩ := List.mem_iff_getElem?.mp q
      have hij : i < j := by
        have := (List.getElem?_eq_some_iff.mp hi).1
        exact Nat.lt_of_lt_of_le this (List.length_take_le ..)
      rw [List.getElem?_take, if_pos hij] at hi
      exact Nat.ne_of_lt hij (nodup_at (f := id) (by rw [List.map_id]; exact hNd) hi hx0 rfl)
    with_reducible refine WSt.localA (by kernel_rfl) ?_
    with_reducible refine WSs.cons ?_
    with_reducible refine WS.expr (by walk_at "u") ?_
    with_reducible refine WE.method (by walk_at "u") rfl rfl rfl ?_
    with_reducible refine WE.localA (by kernel_rfl) (by kernel_rfl) (by walk_at "lk") ?_
    with_reducible refine WM.inst (by walk_at "hp") ms_Wheel_enter (by kernel_rfl) ?_
    with_reducible refine And.intro (Callee.meth ms_Wheel_enter) ?_
    with_reducible refine WEs.cons rfl ?_
    with_reducible refine WE.sub ?_
    with_reducible refine WE.localA (by kernel_rfl) (by kernel_rfl) (by walk_at "lk") ?_
    with_reducible refine WE.localA (by kernel_rfl) (by kernel_rfl) (by walk_at "lk") ?_
    with_reducible refine WSub.list (by walk_at "u") (by walk_at "la") (by walk_at "ar") (by walk_at "ar") (by walk_at "as") ?_
    with_reducible refine WEs.cons rfl ?_
    with_reducible refine WE.binop ?_
    with_reducible refine WE.int ?_
    with_reducible refine WE.binop ?_
    with_reducible refine WE.binop ?_
    with_reducible refine WE.binop ?_
    with_reducible refine WE.localA (by kernel_rfl) (by kernel_rfl) (by walk_at "lk") ?_
    with_reducible refine WE.int ?_
    with_reducible refine WB.div (by walk_at "ar") (by walk_at "ar") ?_
    with_reducible refine WE.binop ?_
    with_reducible refine WE.int ?_
    with_reducible refine WE.localA (by kernel_rfl) (by kernel_rfl) (by walk_at "lk") ?_
    with_reducible refine WB.mul (IntMulOk.of_left (by decide)) ?_
    with_reducible refine WB.add ?_
    with_reducible refine WE.int ?_
    with_reducible refine WB.mod (by walk_at "ar") ?_
    with_reducible refine WB.add ?_
    with_reducible refine WEs.nil ?_
    refine WCall.of_fn (enter_c hw hnot (sh_lo _) (sh_hi _) (by omega) fun a σ2 h2 ho => ?_)
    have a0 := sh_lo (f.fdiv 42 + 5 * (j : Int))
    have a1 := sh_hi (f.fdiv 42 + 5 * (j : Int))
    generalize 1 + (f.fdiv 42 + 5 * (j : Int)).fmod 12 = s at a0 a1 h2 ⊢
    have hi2 : Sh (l ++ [(⟨nm, a, s, 0, false⟩ : Shr)]) := fun x hx => by
      rcases List.mem_append.mp hx with q | q
      · exact hi x q
      · rw [List.mem_singleton.mp q]; exact ⟨a0, a1⟩
    have hnm2 : (l ++ [(⟨nm, a, s, 0, false⟩ : Shr)]).map (fun x : Shr => x.name) = nms.take (j + 1) := by rw [List.map_append, hnm, List.take_add_one, hx0]; rfl
    have hky : (l ++ [(⟨nm, a, s, 0, false⟩ : Shr)])[j]? = some ⟨nm, a, s, 0, false⟩ := by rw [List.getElem?_append_right (Nat.le_of_eq hlen), hlen, Nat.sub_self]; rfl
    generalize l ++ [(⟨nm, a, s, 0, false⟩ : Shr)] = l2 at h2 hi2 hnm2 hky
    have hW2 : σ2 W = some (1, .inst a_Wheel [("past", .int 0), ("sharers", .ref d)]) := h2.whl
    have hN2 := ho.at hN (by decide)
    have hs2 := ho.at hs (by decide)
    clear hW hw hN hs
    with_reducible refine WSs.cons ?_
    with_reducible refine WS.ite ?_
    with_reducible refine WT.cmp1 rfl ?_
    with_reducible refine WE.binop ?_
    with_reducible refine WE.binop ?_
    with_reducible refine WE.call rfl rfl ?_
    with_reducible refine WE.globalA (by kernel_rfl) g_law_cell_at ?_
    with_reducible refine And.intro (Callee.fn fn_law_cell_at) ?_
    with_reducible refine WEs.cons rfl ?_
    with_reducible refine WE.localA (by kernel_rfl) (by kernel_rfl) (by walk_at "lk") ?_
    with_reducible refine WEs.cons rfl ?_
    with_reducible refine WE.int ?_
    with_reducible refine WEs.nil ?_
    refine WCall.of_fn (cell_c (ListAt.k hs2) hz (by decide) (by decide) ?_)
    generalize ns.getD (Int.toNat 1) 0 = f1
    by_cases hw3 : 0 < (f1 + (j : Int)).fmod 3
    · skip
      with_reducible refine WE.localA (by kernel_rfl) (by kernel_rfl) (by walk_at "lk") ?_
      with_reducible refine WB.add ?_
      with_reducible refine WE.int ?_
      with_reducible refine WB.mod (by walk_at "ar") ?_
      with_reducible refine WE.int ?_
      with_reducible refine WC.gt ?_
      with_reducible refine WTr.bool ?_
      with_reducible refine if_dt (by walk_at "as") ?_
      with_reducible refine WSs.cons ?_
      with_reducible refine WS.expr (by walk_at "u") ?_
      with_reducible refine WE.method (by walk_at "u") rfl rfl rfl ?_
      with_reducible refine WE.localA (by kernel_rfl) (by kernel_rfl) (by walk_at "lk") ?_
      with_reducible refine WM.inst (by walk_at "hp") ms_Wheel_wake (by kernel_rfl) ?_
      with_reducible refine And.intro (Callee.meth ms_Wheel_wake) ?_
      with_reducible refine WEs.cons rfl ?_
      with_reducible refine WE.sub ?_
      with_reducible refine WE.localA (by kernel_rfl) (by kernel_rfl) (by walk_at "lk") ?_
      with_reducible refine WE.localA (by kernel_rfl) (by kernel_rfl) (by walk_at "lk") ?_
      with_reducible refine WSub.list (by walk_at "u") (by walk_at "la") (by walk_at "ar") (by walk_at "ar") (by walk_at "as") ?_
      with_reducible refine WEs.nil ?_
      refine WCall.of_fn (wake_c (x := ⟨nm, a, s, 0, false⟩) h2 hky fun σ3 h3 ho3 => ?_)
      with_reducible refine WSs.nil ?_
      with_reducible refine WSs.nil ?_
      refine ⟨_, h3, by rw [map_set_same (fun x : Shr => x.name) hky (by unfold woken; split <;> rfl)]; exact hnm2, fun z hz => ?_, ho3.at hN2 (by decide), ho3.at hs2 (by decide), by walk_at "lk", by walk_at "lk", by walk_at "lk", by walk_at "lk", by walk_at "lk"⟩
      rcases mem_set_or hz with rfl | ⟨i, _, hi⟩
      · unfold woken; split <;> exact ⟨a0, a1⟩
      · exact hi2 z (List.mem_of_getElem? hi)
    · skip
      with_reducible refine WE.localA (by kernel_rfl) (by kernel_rfl) (by walk_at "lk") ?_
      with_reducible refine WB.add ?_
      with_reducible refine WE.int ?_
      with_reducible refine WB.mod (by walk_at "ar") ?_
      with_reducible refine WE.int ?_
      with_reducible refine WC.gt ?_
      with_reducible refine WTr.bool ?_
      with_reducible refine if_df (by walk_at "as") ?_
      with_reducible refine WSs.nil ?_
      with_reducible refine WSs.nil ?_
      exact ⟨_, h2, hnm2, hi2, hN2, hs2, by walk_at "lk", by walk_at "lk", by walk_at "lk", by walk_at "lk", by walk_at "lk"⟩
  clear r0 r1 r2 r3 r4
  rintro ρ' σ' ⟨l, hw, hnm, hi, hN, hs, r0, r1, r2, r3, r4⟩
  rw [List.take_of_length_le (Nat.le_of_eq hNm)] at hnm
  clear hw5 hs5 hN5
  with_reducible refine WSs.cons ?_
  with_reducible refine WS.assign (by walk_at "u") ?_
  refine WE.list 5 ?_
  with_reducible refine WEs.nil ?_
  refine ⟨by simp, fun H hH => ?_⟩
  with_reducible refine WSt.localA (by kernel_rfl) ?_
  with_reducible refine WSs.cons ?_
  with_reducible refine WS.for rfl (by walk_at "u") ?_
  with_reducible refine WE.binop ?_
  refine WE.sliceBoth 9 ?_
  with_reducible refine WE.localA (by kernel_rfl) (by kernel_rfl) (by walk_at "lk") ?_
  with_reducible refine WE.int ?_
  with_reducible refine WE.int ?_
  refine ⟨l0, _, 2, 42, rfl, rfl, rfl, by decide, ListAt.k (Hp.new hH.none hs), mapLe (Nat.le_trans hz (by decide)), fun B1 hB1 => ?_⟩
  skip
  refine WE.list 9 ?_
  with_reducible refine WEs.cons rfl ?_
  with_reducible refine WE.int ?_
  with_reducible refine WEs.cons rfl ?_
  with_reducible refine WE.int ?_
  with_reducible refine WEs.cons rfl ?_
  with_reducible refine WE.int ?_
  with_reducible refine WEs.nil ?_
  refine ⟨by simp, fun B2 hB2 => ?_⟩
  refine WB.addL 10 (ListAt.own (Hp.new hB2.none Hp.self)) (ListAt.own Hp.self) (by rw [← List.length_append]; exact Nat.le_trans len4 (by decide)) fun B hB => ?_
  refine ⟨_, _, Iterable.list (ListAt.own Hp.self), ?_⟩
  have e6 : Extd σ' ((((σ'.put H 5 (.list [])).put B1 9 (.list (((ns.map MV.int).take 42).drop 2))).put B2 9 (.list [.int 3, .int 3, .int 3])).put B 10 (.list (((ns.map MV.int).take 42).drop 2 ++ [.int 3, .int 3, .int 3]))) := fun a p q => Hp.new hB.none (Hp.new hB2.none (Hp.new hB1.none (Hp.new hH.none q)))
  have hw6 := hw.keep (σ' := (((σ'.put H 5 (.list [])).put B1 9 (.list (((ns.map MV.int).take 42).drop 2))).put B2 9 (.list [.int 3, .int 3, .int 3])).put B 10 (.list (((ns.map MV.int).take 42).drop 2 ++ [.int 3, .int 3, .int 3]))) ⟨fun a o q => e6 _ _ q⟩
  have hN6 := e6 _ _ hN
  have hB6 : ((((σ'.put H 5 (.list [])).put B1 9 (.list (((ns.map MV.int).take 42).drop 2))).put B2 9 (.list [.int 3, .int 3, .int 3])).put B 10 (.list (((ns.map MV.int).take 42).drop 2 ++ [.int 3, .int 3, .int 3]))) B = _ := Hp.self
  have hH6 : ((((σ'.put H 5 (.list [])).put B1 9 (.list (((ns.map MV.int).take 42).drop 2))).put B2 9 (.list [.int 3, .int 3, .int 3])).put B 10 (.list (((ns.map MV.int).take 42).drop 2 ++ [.int 3, .int 3, .int 3]))) H = some (5, .list []) := Hp.new hB.none (Hp.new hB2.none (Hp.new hB1.none Hp.self))
  generalize (((σ'.put H 5 (.list [])).put B1 9 (.list (((ns.map MV.int).take 42).drop 2))).put B2 9 (.list [.int 3, .int 3, .int 3])).put B 10 (.list (((ns.map MV.int).take 42).drop 2 ++ [.int 3, .int 3, .int 3])) = σ6 at hw6 hN6 hB6 hH6 ⊢
  clear hB hB1 hB2 hH hw hN hs e6
  refine WFor.byIdx (fun j ρ' σ' => (∃ past l' vs, WheelD σ' W d 1 past l' ∧ l'.map (·.name) = nms ∧ Sh l' ∧ σ' H = some (5, .list vs) ∧ vs.length ≤ j ∧ ∀ v ∈ vs, Held1 σ' nms v) ∧ σ' N = some (2, .list (nms.map .str)) ∧ σ' B = some (10, .list (((ns.map MV.int).take 42).drop 2 ++ [.int 3, .int 3, .int 3])) ∧
    ρ' "_law_wheel" = some (.ref W) ∧ ρ' "_law_names" = some (.ref N) ∧ ρ' "_law_many" = some (.int m) ∧ ρ' "_law_held" = some (.ref H)) ?_ ?_ ?_
  · exact ⟨⟨0, l, [], hw6, hnm, hi, hH6, Nat.le_refl _, fun v hv => nomatch hv⟩, hN6, hB6, by walk_at "lk", by walk_at "lk", by walk_at "lk", by walk_at "lk"⟩
  · clear hw6 hnm hi hH6 hN6 hB6
    rintro j v ρ' σ' hv ⟨⟨past, l', vs, hw, hnm, hi, hH, hvl, hh⟩, hN, hB, r1, r2, r3, r4⟩
    obtain ⟨c, rfl⟩ := sub4_at hv
    have hj : j < 45 := Nat.lt_of_lt_of_le (List.getElem?_eq_some_iff.mp hv).1 len4
    have hl : l'.length = m.toNat := by have := congrArg List.length hnm; rw [List.length_map] at this; omega
    refine ⟨ListAt.own hB, ?_⟩
    have i0 := fmod_ge (c.fdiv 4) h1
    have i1 := fmod_lt (c.fdiv 4) h1
    have i2 : (c.fdiv 4).fmod m < 2 ^ 63 := by omega
    obtain ⟨kn, hkn⟩ := Int.eq_ofNat_of_zero_le i0
    obtain ⟨x, hx, hxn⟩ := nm_at hnm (k := kn) (by omega)
    have hx1 : (nms.map MV.str)[((c.fdiv 4).fmod m).toNat]? = some (.str x.name) := by rw [hkn, Int.toNat_natCast, List.getElem?_map, hxn]; rfl
    have hW : σ' W = some (1, .inst a_Wheel [("past", .int past), ("sharers", .ref d)]) := hw.whl
    by_cases c0 : c.fmod 8 = 0
    · skip
      with_reducible refine WSt.localA (by kernel_rfl) ?_
      with_reducible refine WSs.cons ?_
      with_reducible refine WS.assign (by walk_at "u") ?_
      with_reducible refine WE.binop ?_
      with_reducible refine WE.binop ?_
      with_reducible refine WE.localA (by kernel_rfl) (by kernel_rfl) (by walk_at "lk") ?_
      with_reducible refine WE.int ?_
      with_reducible refine WB.div (by walk_at "ar") (by walk_at "ar") ?_
      with_reducible refine WE.localA (by kernel_rfl) (by kernel_rfl) (by walk_at "lk") ?_
      with_reducible refine WB.mod (by walk_at "ar") ?_
      with_reducible refine WSt.localA (by kernel_rfl) ?_
      with_reducible refine WSs.cons ?_
      with_reducible refine WS.ite ?_
      with_reducible refine WT.cmp1 rfl ?_
      with_reducible refine WE.binop ?_
      with_reducible refine WE.localA (by kernel_rfl) (by kernel_rfl) (by walk_at "lk") ?_
      with_reducible refine WE.int ?_
      with_reducible refine WB.mod (by walk_at "ar") ?_
      with_reducible refine WE.int ?_
      with_reducible refine WC.eqI ?_
      with_reducible refine WTr.bool ?_
      with_reducible refine if_et (by walk_at "as") ?_
      with_reducible refine WSs.cons ?_
      with_reducible refine WS.expr (by walk_at "u") ?_
      with_reducible refine WE.method (by walk_at "u") rfl rfl rfl ?_
      with_reducible refine WE.localA (by kernel_rfl) (by kernel_rfl) (by walk_at "lk") ?_
      with_reducible refine WM.inst (by walk_at "hp") ms_Wheel_wake (by kernel_rfl) ?_
      with_reducible refine And.intro (Callee.meth ms_Wheel_wake) ?_
      with_reducible refine WEs.cons rfl ?_
      with_reducible refine WE.sub ?_
      with_reducible refine WE.localA (by kernel_rfl) (by kernel_rfl) (by walk_at "lk") ?_
      with_reducible refine WE.localA (by kernel_rfl) (by kernel_rfl) (by walk_at "lk") ?_
      with_reducible refine WSub.list (by walk_at "u") (by walk_at "la") (by walk_at "ar") (by walk_at "ar") (by walk_at "as") ?_
      with_reducible refine WEs.nil ?_
      refine WCall.of_fn (wake_c hw hx fun σ2 h2 o2 => ?_)
      with_reducible refine WSs.nil ?_
      with_reducible refine WSs.nil ?_
      refine ⟨⟨past, _, vs, h2, by rw [map_set_same (fun x : Shr => x.name) hx (by unfold woken; split <;> rfl)]; exact hnm, fun z hz => ?_, o2.at hH (by decide), Nat.le_succ_of_le hvl, fun v hv => (hh v hv).kp fun a t o q h1 _ _ _ => o2.at q h1⟩, o2.at hN (by decide), o2.at hB (by decide), by walk_at "lk", by walk_at "lk", by walk_at "lk", by walk_at "lk"⟩
      rcases mem_set_or hz with rfl | ⟨i, _, hii⟩
      · have := hi x (List.mem_of_getElem? hx)
        unfold woken; split <;> exact this
      · exact hi z (List.mem_of_getElem? hii)
    by_cases c4 : c.fmod 8 = 4
    · skip
      with_reducible refine WSt.localA (by kernel_rfl) ?_
      with_reducible refine WSs.cons ?_
      with_reducible refine WS.assign (by walk_at "u") ?_
      with_reducible refine WE.binop ?_
      with_reducible refine WE.binop ?_
      with_reducible refine WE.localA (by kernel_rfl) (by kernel_rfl) (by walk_at "lk") ?_
      with_reducible refine WE.int ?_
      with_reducible refine WB.div (by walk_at "ar") (by walk_at "ar") ?_
      with_reducible refine WE.localA (by kernel_rfl) (by kernel_rfl) (by walk_at "lk") ?_
      with_reducible refine WB.mod (by walk_at "ar") ?_
      with_reducible refine WSt.localA (by kernel_rfl) ?_
      with_reducible refine WSs.cons ?_
      with_reducible refine WS.ite ?_
      with_reducible refine WT.cmp1 rfl ?_
      with_reducible refine WE.binop ?_
      with_reducible refine WE.localA (by kernel_rfl) (by kernel_rfl) (by walk_at "lk") ?_
      with_reducible refine WE.int ?_
      with_reducible refine WB.mod (by walk_at "ar") ?_
      with_reducible refine WE.int ?_
      with_reducible refine WC.eqI ?_
      with_reducible refine WTr.bool ?_
      with_reducible refine if_ef (by walk_at "as") ?_
      with_reducible refine WSs.cons ?_
      with_reducible refine WS.ite ?_
      with_reducible refine WT.cmp1 rfl ?_
      with_reducible refine WE.binop ?_
      with_reducible refine WE.localA (by kernel_rfl) (by kernel_rfl) (by walk_at "lk") ?_
      with_reducible refine WE.int ?_
      with_reducible refine WB.mod (by walk_at "ar") ?_
      with_reducible refine WE.int ?_
      with_reducible refine WC.eqI ?_
      with_reducible refine WTr.bool ?_
      with_reducible refine if_et (by walk_at "as") ?_
      with_reducible refine WSs.cons ?_
      with_reducible refine WS.expr (by walk_at "u") ?_
      with_reducible refine WE.method (by walk_at "u") rfl rfl rfl ?_
      with_reducible refine WE.localA (by kernel_rfl) (by kernel_rfl) (by walk_at "lk") ?_
      with_reducible refine WM.inst (by walk_at "hp") ms_Wheel_rest (by kernel_rfl) ?_
      with_reducible refine And.intro (Callee.meth ms_Wheel_rest) ?_
      with_reducible refine WEs.cons rfl ?_
      with_reducible refine WE.sub ?_
      with_reducible refine WE.localA (by kernel_rfl) (by kernel_rfl) (by walk_at "lk") ?_
      with_reducible refine WE.localA (by kernel_rfl) (by kernel_rfl) (by walk_at "lk") ?_
      with_reducible refine WSub.list (by walk_at "u") (by walk_at "la") (by walk_at "ar") (by walk_at "ar") (by walk_at "as") ?_
      with_reducible refine WEs.nil ?_
      refine WCall.of_fn (rest_c hw hx fun σ2 h2 o2 => ?_)
      with_reducible refine WSs.nil ?_
      with_reducible refine WSs.nil ?_
      with_reducible refine WSs.nil ?_
      refine ⟨⟨past, _, vs, h2, by rw [map_set_same (fun x : Shr => x.name) (y := { x with ready := false }) hx rfl]; exact hnm, fun z hz => ?_, o2.at hH (by decide), Nat.le_succ_of_le hvl, fun v hv => (hh v hv).kp fun a t o q h1 _ _ _ => o2.at q h1⟩, o2.at hN (by decide), o2.at hB (by decide), by walk_at "lk", by walk_at "lk", by walk_at "lk", by walk_at "lk"⟩
      rcases mem_set_or hz with rfl | ⟨i, _, hii⟩
      · exact hi x (List.mem_of_getElem? hx)
      · exact hi z (List.mem_of_getElem? hii)
    · skip
      with_reducible refine WSt.localA (by kernel_rfl) ?_
      with_reducible refine WSs.cons ?_
      with_reducible refine WS.assign (by walk_at "u") ?_
      with_reducible refine WE.binop ?_
      with_reducible refine WE.binop ?_
      with_reducible refine WE.localA (by kernel_rfl) (by kernel_rfl) (by walk_at "lk") ?_
      with_reducible refine WE.int ?_
      with_reducible refine WB.div (by walk_at "ar") (by walk_at "ar") ?_
      with_reducible refine WE.localA (by kernel_rfl) (by kernel_rfl) (by walk_at "lk") ?_
      with_reducible refine WB.mod (by walk_at "ar") ?_
      with_reducible refine WSt.localA (by kernel_rfl) ?_
      with_reducible refine WSs.cons ?_
      with_reducible refine WS.ite ?_
      with_reducible refine WT.cmp1 rfl ?_
      with_reducible refine WE.binop ?_
      with_reducible refine WE.localA (by kernel_rfl) (by kernel_rfl) (by walk_at "lk") ?_
      with_reducible refine WE.int ?_
      with_reducible refine WB.mod (by walk_at "ar") ?_
      with_reducible refine WE.int ?_
      with_reducible refine WC.eqI ?_
      with_reducible refine WTr.bool ?_
      with_reducible refine if_ef (by walk_at "as") ?_
      with_reducible refine WSs.cons ?_
      with_reducible refine WS.ite ?_
      with_reducible refine WT.cmp1 rfl ?_
      with_reducible refine WE.binop ?_
      with_reducible refine WE.localA (by kernel_rfl) (by kernel_rfl) (by walk_at "lk") ?_
      with_reducible refine WE.int ?_
      with_reducible refine WB.mod (by walk_at "ar") ?_
      with_reducible refine WE.int ?_
      with_reducible refine WC.eqI ?_
      with_reducible refine WTr.bool ?_
      with_reducible refine if_ef (by walk_at "as") ?_
      with_reducible refine WSs.cons ?_
      with_reducible refine WS.ite ?_
      with_reducible refine WT.not ?_
      with_reducible refine WT.plain (by walk_at "u") ?_
      with_reducible refine WE.call rfl rfl ?_
      with_reducible refine WE.globalA (by kernel_rfl) g_law_turn ?_
      with_reducible refine And.intro (Callee.fn fn_law_turn) ?_
      with_reducible refine WEs.cons rfl ?_
      with_reducible refine WE.localA (by kernel_rfl) (by kernel_rfl) (by walk_at "lk") ?_
      with_reducible refine WEs.cons rfl ?_
      with_reducible refine WE.localA (by kernel_rfl) (by kernel_rfl) (by walk_at "lk") ?_
      with_reducible refine WEs.cons rfl ?_
      with_reducible refine WE.localA (by kernel_rfl) (by kernel_rfl) (by walk_at "lk") ?_
      with_reducible refine WEs.nil ?_
      refine WCall.of_fn (turn4_c hw (by rw [hnm]; exact hN) hH (by omega) (by omega) (by omega) hi (by rw [hnm]; exact hNo) fun past2 l2 v2 σ2 h2 n2 s2 q2 H2 k2 => ?_)
      rw [hnm] at n2 q2
      with_reducible refine WTr.bool ?_
      with_reducible refine if_nt ?_
      with_reducible refine WSs.nil ?_
      with_reducible refine WSs.nil ?_
      with_reducible refine WSs.nil ?_
      with_reducible refine WSs.nil ?_
      refine ⟨⟨past2, l2, _, h2, n2, s2, H2, by rw [List.length_append]; exact Nat.succ_le_succ hvl, fun v hv => ?_⟩, k2 _ _ _ hN (by decide) (by decide) (by decide) (by decide), k2 _ _ _ hB (by decide) (by decide) (by decide) (by decide), by walk_at "lk", by walk_at "lk", by walk_at "lk", by walk_at "lk"⟩
      rcases List.mem_append.mp hv with q | q
      · exact (hh v q).kp k2
      · rw [List.mem_singleton.mp q]; exact q2
  · clear hw6 hnm hi hH6 hN6 hB6 r0 r1 r2 r3 r4
    rintro ρ' σ' ⟨⟨past, l', vs, hw, hnm, hi, hH, hvl, hh⟩, hN, hB, r1, r2, r3, r4⟩
    refine ⟨ListAt.own hB, ?_⟩
    with_reducible refine WSs.cons ?_
    refine WS.forT rfl (by walk_at "u") ?_
    with_reducible refine WE.localA (by kernel_rfl) (by kernel_rfl) (by walk_at "lk") ?_
    refine ⟨_, _, rfl, ListAt.own hH, ?_⟩
    refine WForT.inv (fun j ρ' σ' => σ' H = some (5, .list vs) ∧ (∀ v ∈ vs, Held1 σ' nms v) ∧ σ' N = some (2, .list (nms.map .str)) ∧ ρ' "_law_names" = some (.ref N)) _ 0 ?_ ?_ ?_
    · exact ⟨hH, hh, hN, r2⟩
    · clear hw hnm hi hH hh hN hB r1 r2 r3 r4
      rintro k v ρ2 σ2 hv ⟨hH, hh, hN, r2⟩
      obtain ⟨t, W3, d3, past3, l3, B3, ts, rfl, ht, hw, hT, hnm⟩ := hh v (List.mem_of_getElem? hv)
      have hl : l3.length = m.toNat := by have := congrArg List.length hnm; rw [List.length_map] at this; omega
      refine ⟨ListAt.own hH, ?_⟩
      have hW : σ2 W3 = some (3, .inst a_Wheel [("past", .int past3), ("sharers", .ref d3)]) := hw.whl
      have qp : past3 = past3 := rfl
      refine WTg.tuple rfl rfl rfl ht ?_
      refine WTgs.name ?_
      with_reducible refine WSt.localA (by kernel_rfl) ?_
      refine WTgs.name ?_
      with_reducible refine WSt.localA (by kernel_rfl) ?_
      refine WTgs.name ?_
      with_reducible refine WSt.localA (by kernel_rfl) ?_
      refine WTgs.nil ?_
      with_reducible refine WSs.cons ?_
      with_reducible refine WS.ite ?_
      with_reducible refine WT.bool ?_
      with_reducible refine WA.or ?_
      with_reducible refine WT.cmp1 rfl ?_
      with_reducible refine WE.attr (by walk_at "u") ?_
      with_reducible refine WE.localA (by kernel_rfl) (by kernel_rfl) (by walk_at "lk") ?_
      with_reducible refine WGet.inst (by walk_at "hp") (by kernel_rfl) (by walk_at "fl") (by with_unfolding_all rfl) ?_
      with_reducible refine WE.localA (by kernel_rfl) (by kernel_rfl) (by walk_at "lk") ?_
      with_reducible refine WC.neI ?_
      with_reducible refine WTr.bool ?_
      with_reducible refine if_nf' (by walk_at "as") ?_
      with_reducible refine WA.or ?_
      with_reducible refine WT.cmp1 rfl ?_
      with_reducible refine WE.method (by walk_at "u") rfl rfl rfl ?_
      with_reducible refine WE.localA (by kernel_rfl) (by kernel_rfl) (by walk_at "lk") ?_
      with_reducible refine WM.inst (by walk_at "hp") ms_Wheel_names (by kernel_rfl) ?_
      with_reducible refine And.intro (Callee.meth ms_Wheel_names) ?_
      with_reducible refine WEs.nil ?_
      refine WCall.of_fn (names_c 9 hw (by omega) fun b hb => ?_)
      have eb : Extd σ2 (σ2.put b 9 (.list ((l3.map (·.name)).map .str))) := fun a p q => Hp.new hb.none q
      have hw2 := hw.keep (σ' := σ2.put b 9 (.list ((l3.map (·.name)).map .str))) ⟨fun a o q => eb _ _ q⟩
      have hb2 : (σ2.put b 9 (.list ((l3.map (·.name)).map .str))) b = _ := Hp.self
      generalize σ2.put b 9 (.list ((l3.map (·.name)).map .str)) = σ3 at eb hw2 hb2 ⊢
      with_reducible refine WE.localA (by kernel_rfl) (by kernel_rfl) (by walk_at "lk") ?_
      refine WC.ne (Nat.succ_le_succ (Nat.zero_le _)) (by decide) (names_eq (ListAt.own hb2) (ListAt.own (eb _ _ hN)) hnm).2 ?_
      with_reducible refine WTr.bool ?_
      with_reducible refine if_ff ?_
      with_reducible refine WA.or ?_
      with_reducible refine WT.cmp1 rfl ?_
      with_reducible refine WE.call rfl rfl ?_
      with_reducible refine WE.globalA (by kernel_rfl) g_law_told ?_
      with_reducible refine And.intro (Callee.fn fn_law_told) ?_
      with_reducible refine WEs.cons rfl ?_
      with_reducible refine WE.localA (by kernel_rfl) (by kernel_rfl) (by walk_at "lk") ?_
      with_reducible refine WEs.cons rfl ?_
      with_reducible refine WE.localA (by kernel_rfl) (by kernel_rfl) (by walk_at "lk") ?_
      with_reducible refine WEs.nil ?_
      refine WCall.of_fn (told_c 6 hw2 (by rw [hnm]; exact eb _ _ hN) (by omega) fun B4 ts4 σ4 T4 e4 => ?_)
      have e5 : Extd σ2 σ4 := fun a p q => e4 _ _ (eb _ _ q)
      with_reducible refine WE.localA (by kernel_rfl) (by kernel_rfl) (by walk_at "lk") ?_
      refine WC.ne (Nat.succ_le_succ (Nat.zero_le _)) (by decide) (told_eq T4 (hT.oth (σ' := σ4) (fun q => e5 _ _ q) (fun q => e5 _ _ q)) rfl).2 ?_
      with_reducible refine WTr.bool ?_
      with_reducible refine if_ff ?_
      with_reducible refine WA.or_nil ?_
      with_reducible refine if_ff ?_
      with_reducible refine WSs.nil ?_
      with_reducible refine WSs.nil ?_
      exact ⟨e5 _ _ hH, fun v hv => (hh v hv).kp fun a t o q _ _ _ _ => e5 _ _ q, e5 _ _ hN, by walk_at "lk"⟩
    · rintro ρ2 σ2 ⟨hH, hh, hN, r2⟩
      refine ⟨ListAt.own hH, ?_⟩
      with_reducible refine WSs.cons ?_
      with_reducible refine WS.ret ?_
      with_reducible refine WE.bool ?_
      exact rfl
end Mine
open PySem PySem.W PyProof.Rows
set_option maxRecDepth 100000 in
set_option maxHeartbeats 8000000 in
theorem PySem.Challenge.cw_uf030004_04_holds : PySem.Challenge.rw_uf030004_04.Holds := by
  refine Mine.hd ?_
  k_fill
  intro w s₀ s₁ mg mb G Y fa o pm cd doc dV kV ho hd hcd hD hmg hg args vals as hpre hlay hrd hwl hlo
  have KX := kIn_of Y
  have X := (Ground.X G).1
  have V := (Ground.X G).2
  refine Ground.open G ?_
  intro T B D TE TW
  wrow_args hpre hlay hrd hwl hlo
  all_goals (first | refine callC_kw (enter_call ?_) | refine enter_call ?_ | refine callC_kw (enter_callW ?_) | refine enter_callW ?_ | w_how)
  all_goals w_top on
  refine codeAny_mono ?_ (fun _ _ g => GoodW.toG g)
  have he := Dflts.none hD rfl
  subst he
  have he := Dflts.noKw hD
  subst he
  obtain ⟨body, scope, F, hw⟩ := Mine.law_A0 (w := w) (mean := ExcName.means s₀.heap) (mg := mg) (mb := mb)
  refine Mine.law_enter (c := Mine.cx w (ExcName.means s₀.heap) mg mb) (Mine.cx_ok w _ mg mb) (p := "_law_script") ho hd hcd KX T (fun u => rfl) (by decide +kernel) (by assumption) (by assumption) (fun ol => ?_) fun s' hk ho hg' => ?_
  · have F' : Mine.FnAt (Mine.cx w (ExcName.means s₀.heap) mg mb) Mine.a_law ["_law_script"] _ _ := ⟨⟨_, _, _, _, _, _, _, _, _, _, _, _, _, (rfl : (Mine.hd.heap_39 w.params).lookup Mine.a_law = _), by kernel_rfl, Mine.us1 fun _ => rfl⟩, by decide +kernel⟩
    obtain ⟨rfl, rfl⟩ := Mine.FnAt.unique F F'
    exact hw _ _ ol (by omega)
  · exact ⟨.inl ⟨_, _, _, rfl, fun cls => rfl, ReadsW.bool true, by kernel_rfl, fun _ => ⟨List.nodup_nil, fun a h => by cases h⟩⟩, hk, ho, hg'.trans hg⟩

