import PyProof.Rows.All
import Wide.All
import OpenK.AllK
import Wide.FinOn
import PySem.Challenge.RW_uf030004_13
set_option linter.all false
set_option Elab.async false
set_option genSizeOfSpec false
set_option maxHeartbeats 4000000
set_option maxRecDepth 100000
open PySem PySem.W PyProof.Rows
namespace Mine
inductive MV where
  | none | bool (b : Bool) | int (i : Int) | str (x : Str) | ref (a : Nat) | con (v : Value)
def MV.Is : MV → Value → Prop
  | .none, v => v = .none
  | .bool b, v => v = .bool b
  | .int i, v => ∃ t, v = .int i t
  | .str x, v => ∃ t, v = .str x t
  | .ref a, v => v = .ref a
  | .con c, v => v = c
inductive All2 {α β : Type} (R : α → β → Prop) : List α → List β → Prop
  | nil : All2 R [] []
  | cons {a b l m} : R a b → All2 R l m → All2 R (a :: l) (b :: m)
theorem All2.length {α β : Type} {R : α → β → Prop} {l : List α} {m : List β} (h : All2 R l m) : l.length = m.length := by
  induction h with
  | nil => rfl
  | cons _ _ ih => simp [ih]
theorem All2.get {α β : Type} {R : α → β → Prop} {l : List α} {m : List β} (h : All2 R l m) : ∀ {i : Nat} {a : α}, l[i]? = some a → ∃ b, m[i]? = some b ∧ R a b := by
  induction h with
  | nil => intro i a e; simp at e
  | cons r _ ih =>
    intro i a e
    cases i with
    | zero => simp at e; subst e; exact ⟨_, by simp, r⟩
    | succ i => simp at e; simpa using ih e
theorem All2.append {α β : Type} {R : α → β → Prop} {l l' : List α} {m m' : List β} (h : All2 R l m) (h' : All2 R l' m') : All2 R (l ++ l') (m ++ m') := by
  induction h with
  | nil => exact h'
  | cons r _ ih => exact .cons r ih
theorem All2.set {α β : Type} {R : α → β → Prop} {l : List α} {m : List β} (h : All2 R l m) {a : α} {b : β} (r : R a b) : ∀ (i : Nat), All2 R (l.set i a) (m.set i b) := by
  induction h with
  | nil => intro i; simp; exact .nil
  | cons r' h ih =>
    intro i
    cases i with
    | zero => exact .cons r h
    | succ i => exact .cons r' (ih i)
inductive MO where
  | list (xs : List MV) | tuple (xs : List MV) | sdict (es : List (Str × MV)) | idict (es : List (Int × MV)) (ep : Nat) | edict (es : List (Str × MV)) (ep : Nat) | inst (C : Nat) (fs : List (Str × MV)) | exc (C : Nat) | range (lo hi : Int) | klist (xs : List MV) (o : Obj)
def FieldsAre (P : Params) : List (Str × MV) → List DictEntry → Prop :=
  All2 fun p e => e.hash = PyData.keyHash P p.1 ∧ (∃ t, e.key = .str p.1 t) ∧ p.2.Is e.val
def KeyIs {κ : Type} [DecidableEq κ] {prog : Program} {w : World} (knd : KeyKind prog w κ) (o : Obj) (es : List (κ × MV)) : Prop :=
  ∃ kvs : List (κ × Value), o.IsDictOf knd kvs ∧ All2 (fun (p : κ × MV) (q : κ × Value) => p.1 = q.1 ∧ p.2.Is q.2) es kvs
def ObjAt (prog : Program) (w : World) (h : Heap) (a : Nat) : MO → Prop
  | .list xs => ∃ its n, h.get? a = some (listOf its n) ∧ All2 MV.Is xs its.toList
  | .tuple xs => ∃ its n, h.get? a = some ({ cls := .type "tuple", data := .seq its n } : Obj) ∧ All2 MV.Is xs its.toList
  | .sdict es => (a == sysModules) = false ∧ ∃ o, h.get? a = some o ∧ KeyIs (strKind prog w) o es
  | .idict es ep => (a == sysModules) = false ∧ ∃ o, h.get? a = some o ∧ KeyIs (intKind prog w) o es ∧ ∃ q, o.data = .dict q ep
  | .edict es ep => (a == sysModules) = false ∧ ∃ o, h.get? a = some o ∧ KeyIs (strKind prog w) o es ∧ ∃ q, o.data = .dict q ep
  | .inst C fs => ∃ d es n, a = d + 1 ∧ h.get? a = some (instObj C d) ∧ h.get? d = some (dictOf es n) ∧ FieldsAre w.params fs es
  | .exc C => ∃ o, h.get? a = some o ∧ o.cls = .ref C ∧ notCls o = true
  | .range lo hi => ∃ t u v, IsRange h a lo hi 1 t u v
  | .klist xs o => h.get? a = some o ∧ o.cls = .type "list" ∧ ∃ its n, o.data = .seq its n ∧ All2 MV.Is xs its.toList
def MO.isK : MO → Bool
  | .klist .. => true
  | _ => false
abbrev Hp := Nat → Option (Nat × MO)
abbrev Lo := Str → Option MV
def Hp.put (σ : Hp) (a : Nat) (t : Nat) (o : MO) : Hp := fun b => if b = a then some (t, o) else σ b
def Lo.put (ρ : Lo) (x : Str) (v : MV) : Lo := fun y => if y = x then some v else ρ y
def Foot (σ : Hp) (a : Nat) : Prop := (∃ t mo, σ a = some (t, mo) ∧ mo.isK = false) ∨ ∃ t C fs, σ (a + 1) = some (t, .inst C fs)
set_option genInjectivity false in
structure Fm where
  A : Around
  env : Env
  top : Env
  outer : List Env
  slotted : List Nat
  base : Heap
abbrev Fm.L (f : Fm) : Nat := f.env.locals
abbrev Fm.cells (f : Fm) : List (Str × Nat) := f.env.cells
abbrev Fm.scope (f : Fm) : Scope := f.env.scope
def frameAddrs (l : List Env) : List Nat := l.filterMap (·.frame)
def OptIs : Option MV → Option Value → Prop
  | some m, some v => m.Is v
  | none, _ => True
  | some _, none => False
structure Rel (prog : Program) (w : World) (f : Fm) (ρ : Lo) (σ : Hp) (fr : Nat → Option Obj) (z s : Shared) : Prop where
  same : s.gens = z.gens ∧ s.drawn = z.drawn ∧ s.os = z.os
  keep : ∀ a o, fr a = some o → ∃ sl, s.heap.get? a = some { o with slots := sl } ∧ (a ∉ f.slotted → sl = o.slots)
  objs : ∀ a t mo, σ a = some (t, mo) → ObjAt prog w s.heap a mo
  wf : ∀ a t C fs, σ (a + 1) = some (t, .inst C fs) → σ a = none
  apart : ∀ a, Foot σ a → fr a = none ∧ a ≠ f.L ∧ ∀ x c, (x, c) ∈ f.cells → a ≠ c
  ns : ∃ m, s.heap.Ns f.L m ∧ ∀ x, f.scope.names.lookup x = some .local → OptIs (ρ x) (m x)
  cel : ∀ x c, (x, c) ∈ f.cells → ∃ o v, s.heap.get? c = some o ∧ o.data = .cell v ∧ OptIs (ρ x) v
  frame : fr f.L = none ∧ ∀ x c, (x, c) ∈ f.cells → fr c = none ∧ c ≠ f.L
  kl : ∀ a t xs o, σ a = some (t, .klist xs o) → f.base.get? a = some o
def MO.isInst : MO → Bool
  | .inst .. => true
  | _ => false
section
variable {prog : Program} {w : World} {h h' : Heap} {a : Nat} {mo : MO}
theorem ObjAt.there (x : ObjAt prog w h a mo) : ∃ o, h.get? a = some o := by
  cases mo with
  | list xs => obtain ⟨its, n, e, _⟩ := x; exact ⟨_, e⟩
  | tuple xs => obtain ⟨its, n, e, _⟩ := x; exact ⟨_, e⟩
  | sdict es => obtain ⟨_, o, e, _⟩ := x; exact ⟨_, e⟩
  | idict es ep => obtain ⟨_, o, e, _⟩ := x; exact ⟨_, e⟩
  | edict es ep => obtain ⟨_, o, e, _⟩ := x; exact ⟨_, e⟩
  | inst C fs => obtain ⟨d, es, n, _, e, _⟩ := x; exact ⟨_, e⟩
  | exc C => obtain ⟨o, e, _⟩ := x; exact ⟨_, e⟩
  | range lo hi => obtain ⟨t, u, v, e⟩ := x; exact ⟨_, e⟩
  | klist xs o => exact ⟨_, x.1⟩
theorem ObjAt.dict_there {C : Nat} {fs : List (Str × MV)} (x : ObjAt prog w h (a + 1) (.inst C fs)) : ∃ o, h.get? a = some o := by
  obtain ⟨d, es, n, e1, _, e2, _⟩ := x
  obtain rfl : a = d := Nat.succ.inj e1
  exact ⟨_, e2⟩
theorem ObjAt.of_same (x : ObjAt prog w h a mo) (k : ∀ o, h.get? a = some o → h'.get? a = some o) (k' : ∀ d o, mo.isInst = true → a = d + 1 → h.get? d = some o → h'.get? d = some o) : ObjAt prog w h' a mo := by
  cases mo with
  | list xs => obtain ⟨its, n, e, r⟩ := x; exact ⟨its, n, k _ e, r⟩
  | tuple xs => obtain ⟨its, n, e, r⟩ := x; exact ⟨its, n, k _ e, r⟩
  | sdict es => obtain ⟨l, o, e, r⟩ := x; exact ⟨l, o, k _ e, r⟩
  | idict es ep => obtain ⟨l, o, e, r⟩ := x; exact ⟨l, o, k _ e, r⟩
  | edict es ep => obtain ⟨l, o, e, r⟩ := x; exact ⟨l, o, k _ e, r⟩
  | inst C fs => obtain ⟨d, es, n, e0, e, e', r⟩ := x; exact ⟨d, es, n, e0, k _ e, k' d _ rfl e0 e', r⟩
  | exc C => obtain ⟨o, e, r⟩ := x; exact ⟨o, k _ e, r⟩
  | range lo hi => obtain ⟨t, u, v, e⟩ := x; exact ⟨t, u, v, k _ e⟩
  | klist xs o => exact ⟨k _ x.1, x.2⟩
theorem ObjAt.keeps (x : ObjAt prog w h a mo) (k : ∀ b o, h.get? b = some o → h'.get? b = some o) : ObjAt prog w h' a mo :=
  x.of_same (fun o e => k a o e) fun d o _ _ e => k d o e
end
theorem Hp.put_self (σ : Hp) (a : Nat) (t : Nat) (o : MO) : (σ.put a t o) a = some (t, o) := by simp [Hp.put]
theorem Hp.put_ne (σ : Hp) {a b : Nat} (t : Nat) (o : MO) (h : b ≠ a) : (σ.put a t o) b = σ b := by simp [Hp.put, h]
def Kept (L : Nat) (D : Nat → Prop) (h h' : Heap) : Prop := (∀ a o, ¬ D a → a ≠ L → h.get? a = some o → h'.get? a = some o) ∧ ∀ m, h.Ns L m → h'.Ns L m
theorem Kept.of_grown {L : Nat} {h h' : Heap} (k : ∀ b o, h.get? b = some o → h'.get? b = some o) {D : Nat → Prop} : Kept L D h h' :=
  ⟨fun a o _ _ e => k a o e, fun m ⟨o, es, ep, e, r⟩ => ⟨o, es, ep, k _ _ e, r⟩⟩
theorem Kept.of_same {L d : Nat} {h h' : Heap} (hs : Heap.SameBut d h h') (hd : d ≠ L) : Kept L (· = d) h h' :=
  ⟨fun a o n _ e => (hs.2 a n).trans e, fun m hn => hn.sameBut hs (Ne.symm hd)⟩
section
variable {prog : Program} {w : World} {f : Fm} {ρ : Lo} {σ : Hp} {fr : Nat → Option Obj} {z s : Shared}
theorem Rel.some_lt (R : Rel prog w f ρ σ fr z s) {a : Nat} {p : Nat × MO} (e : σ a = some p) : a < s.heap.objs.size := by
  obtain ⟨t, mo⟩ := p; obtain ⟨o, ho⟩ := (R.objs a t mo e).there; exact Heap.lt_size ho
theorem Rel.foot_lt (R : Rel prog w f ρ σ fr z s) {a : Nat} (x : Foot σ a) : a < s.heap.objs.size := by
  rcases x with ⟨t, mo, e, _⟩ | ⟨t, C, fs, x⟩
  · exact R.some_lt e
  · obtain ⟨o, ho⟩ := (R.objs _ t _ x).dict_there; exact Heap.lt_size ho
theorem Rel.fr_lt (R : Rel prog w f ρ σ fr z s) {a : Nat} {o : Obj} (x : fr a = some o) : a < s.heap.objs.size := let ⟨_, e, _⟩ := R.keep a o x; Heap.lt_size e
theorem Rel.L_lt (R : Rel prog w f ρ σ fr z s) : f.L < s.heap.objs.size := by obtain ⟨m, h, _⟩ := R.ns; exact h.lt
theorem Rel.cel_lt (R : Rel prog w f ρ σ fr z s) {x : Str} {c : Nat} (h : (x, c) ∈ f.cells) : c < s.heap.objs.size := by obtain ⟨o, v, e, _⟩ := R.cel x c h; exact Heap.lt_size e
theorem Foot.of_some {σ : Hp} {a t : Nat} {mo : MO} (e : σ a = some (t, mo)) (h : mo.isK = false) : Foot σ a := .inl ⟨t, mo, e, h⟩
theorem Rel.neL (R : Rel prog w f ρ σ fr z s) {a t : Nat} {mo : MO} (e : σ a = some (t, mo)) : a ≠ f.L := by
  cases h : mo.isK with
  | false => exact (R.apart a (.of_some e h)).2.1
  | true =>
    cases mo <;> first | cases h | skip
    intro q
    obtain ⟨h1, _, its, n, h2, _⟩ := R.objs a t _ e
    obtain ⟨m, ⟨o, es, ep, h3, h4, _⟩, _⟩ := R.ns
    rw [q, h3] at h1
    cases h1
    rw [h2] at h4; cases h4
theorem Rel.neC (R : Rel prog w f ρ σ fr z s) {a t : Nat} {mo : MO} (e : σ a = some (t, mo)) {x : Str} {c : Nat} (hc : (x, c) ∈ f.cells) : a ≠ c := by
  cases h : mo.isK with
  | false => exact (R.apart a (.of_some e h)).2.2 x c hc
  | true =>
    cases mo <;> first | cases h | skip
    intro q
    obtain ⟨h1, _, its, n, h2, _⟩ := R.objs a t _ e
    obtain ⟨o, v, h3, h4, _⟩ := R.cel x c hc
    rw [q, h3] at h1
    cases h1
    rw [h2] at h4; cases h4
theorem Rel.kept (R : Rel prog w f ρ σ fr z s) {h' : Heap} {tk : Nat} (k : Kept f.L (fun _ => False) s.heap h') : Rel prog w f ρ σ fr z { s with heap := h', toks := tk } where
  same := R.same
  keep := fun a o e => let ⟨sl, e1, e2⟩ := R.keep a o e; ⟨sl, k.1 a _ id (fun q => by have := R.frame.1; rw [← q, e] at this; cases this) e1, e2⟩
  objs := fun a t mo e => (R.objs a t mo e).of_same (fun o e' => k.1 a o id (R.neL e) e') fun d o hi ed e' => k.1 d o id (by
    subst ed
    cases mo <;> first | cases hi | skip
    exact (R.apart d (.inr ⟨_, _, _, e⟩)).2.1) e'
  wf := R.wf
  apart := R.apart
  ns := by obtain ⟨m, hn, q⟩ := R.ns; exact ⟨m, k.2 m hn, q⟩
  cel := fun x c hc => by obtain ⟨o, v, e, r⟩ := R.cel x c hc; exact ⟨o, v, k.1 c _ id (R.frame.2 x c hc).2 e, r⟩
  frame := R.frame
  kl := R.kl
theorem Rel.grown (R : Rel prog w f ρ σ fr z s) {h' : Heap} {tk : Nat} (k : ∀ b o, s.heap.get? b = some o → h'.get? b = some o) : Rel prog w f ρ σ fr z { s with heap := h', toks := tk } := R.kept (.of_grown k)
theorem Rel.toks (R : Rel prog w f ρ σ fr z s) (tk : Nat) : Rel prog w f ρ σ fr z { s with toks := tk } := R.grown (h' := s.heap) fun _ _ e => e
theorem Rel.alloc (R : Rel prog w f ρ σ fr z s) {h' : Heap} {tk : Nat} {b : Nat} {mo : MO} (t : Nat) (k : Kept f.L (fun _ => False) s.heap h') (hb : s.heap.objs.size ≤ b)
    (hi : mo.isInst = true → s.heap.objs.size < b) (x : ObjAt prog w h' b mo) (hk : mo.isK = false := by rfl) : Rel prog w f ρ (σ.put b t mo) fr z { s with heap := h', toks := tk } where
  same := R.same
  keep := (R.kept (tk := tk) k).keep
  objs := fun a t' mo' e => by
    by_cases q : a = b
    · subst q; rw [Hp.put_self] at e; cases e; exact x
    · rw [Hp.put_ne _ _ _ q] at e; exact (R.kept (tk := tk) k).objs a t' mo' e
  wf := fun a t' C fs e => by
    by_cases q : a + 1 = b
    · rw [q, Hp.put_self] at e
      obtain ⟨rfl, rfl⟩ : t' = t ∧ mo = .inst C fs := by cases e; exact ⟨rfl, rfl⟩
      have h5 := hi rfl
      rw [← q] at h5
      rw [Hp.put_ne _ _ _ (fun q2 => Nat.succ_ne_self a (q.trans q2.symm))]
      cases e' : σ a with
      | none => rfl
      | some p => exact absurd (R.some_lt e') (Nat.not_lt.mpr (Nat.le_of_lt_succ h5))
    · rw [Hp.put_ne _ _ _ q] at e
      have : a < s.heap.objs.size := R.foot_lt (.inr ⟨t', C, fs, e⟩)
      rw [Hp.put_ne _ _ _ (Nat.ne_of_lt (Nat.lt_of_lt_of_le this hb))]
      exact R.wf a t' C fs e
  apart := fun a fa => by
    have new : s.heap.objs.size ≤ a → fr a = none ∧ a ≠ f.L ∧ ∀ x c, (x, c) ∈ f.cells → a ≠ c := fun ha => by
      refine ⟨?_, ?_, fun y c hc => ?_⟩
      · cases e : fr a with
        | none => rfl
        | some o => exact absurd (R.fr_lt e) (Nat.not_lt.mpr ha)
      · exact (Nat.ne_of_lt (Nat.lt_of_lt_of_le R.L_lt ha)).symm
      · exact (Nat.ne_of_lt (Nat.lt_of_lt_of_le (R.cel_lt hc) ha)).symm
    by_cases q : a = b
    · exact new (q ▸ hb)
    · by_cases q' : a + 1 = b
      · by_cases ho : Foot σ a
        · exact R.apart a ho
        · refine new ?_
          rcases fa with ⟨t', mo', fa, fk⟩ | ⟨t', C, fs, e⟩
          · rw [Hp.put_ne _ _ _ q] at fa; exact absurd (.of_some fa fk) ho
          · rw [q', Hp.put_self] at e
            obtain ⟨rfl, rfl⟩ : t' = t ∧ mo = .inst C fs := by cases e; exact ⟨rfl, rfl⟩
            have h5 := hi rfl
            rw [← q'] at h5
            exact Nat.le_of_lt_succ h5
      · refine R.apart a ?_
        rcases fa with ⟨t', mo', fa, fk⟩ | ⟨t', C, fs, e⟩
        · rw [Hp.put_ne _ _ _ q] at fa; exact .of_some fa fk
        · rw [Hp.put_ne _ _ _ q'] at e; exact .inr ⟨t', C, fs, e⟩
  ns := (R.kept (tk := tk) k).ns
  cel := (R.kept (tk := tk) k).cel
  frame := R.frame
  kl := fun a t' xs o e => by
    by_cases q : a = b
    · subst q; rw [Hp.put_self] at e; cases e; cases hk
    · rw [Hp.put_ne _ _ _ q] at e; exact R.kl a t' xs o e
theorem Rel.upd (R : Rel prog w f ρ σ fr z s) {h' : Heap} {tk : Nat} {d : Nat} {t t' : Nat} {mo mo' : MO} (hd : σ d = some (t, mo)) (hk : mo.isK = false) (hi' : mo'.isInst = false) (hs : Kept f.L (· = d) s.heap h')
    (x : ObjAt prog w h' d mo') (hk' : mo'.isK = false := by rfl) : Rel prog w f ρ (σ.put d t' mo') fr z { s with heap := h', toks := tk } where
  same := R.same
  keep := fun a o e => let ⟨sl, e1, e2⟩ := R.keep a o e; ⟨sl, hs.1 a _ (fun q => by have := (R.apart d (.of_some hd hk)).1; rw [← q, e] at this; cases this) (fun q => by have := R.frame.1; rw [← q, e] at this; cases this) e1, e2⟩
  objs := fun a t₁ mo₁ e => by
    by_cases q : a = d
    · subst q; rw [Hp.put_self] at e; cases e; exact x
    · rw [Hp.put_ne _ _ _ q] at e
      refine (R.objs a t₁ mo₁ e).of_same (fun o e' => hs.1 a _ q (R.neL e) e') fun b o hb e1 e2 => ?_
      subst e1
      cases mo₁ <;> first | cases hb | skip
      refine hs.1 b _ (fun q2 => ?_) (R.apart b (.inr ⟨_, _, _, e⟩)).2.1 e2
      subst q2
      have := R.wf _ _ _ _ e; rw [hd] at this; cases this
  wf := fun a t₁ C fs e => by
    by_cases q : a + 1 = d
    · rw [q, Hp.put_self] at e; cases e; cases hi'
    · rw [Hp.put_ne _ _ _ q] at e
      by_cases q' : a = d
      · subst q'; have := R.wf _ _ _ _ e; rw [hd] at this; cases this
      · rw [Hp.put_ne _ _ _ q']; exact R.wf a t₁ C fs e
  apart := fun a fa => by
    refine R.apart a ?_
    rcases fa with ⟨t₁, mo₁, fa, fk⟩ | ⟨t₁, C, fs, e⟩
    · by_cases q : a = d
      · subst q; exact .of_some hd hk
      · rw [Hp.put_ne _ _ _ q] at fa; exact .of_some fa fk
    · by_cases q : a + 1 = d
      · rw [q, Hp.put_self] at e; cases e; cases hi'
      · rw [Hp.put_ne _ _ _ q] at e; exact .inr ⟨_, _, _, e⟩
  ns := by obtain ⟨m, hn, q⟩ := R.ns; exact ⟨m, hs.2 m hn, q⟩
  cel := fun x c hc => by obtain ⟨o, v, e, r⟩ := R.cel x c hc; exact ⟨o, v, hs.1 c _ (fun q => (R.apart d (.of_some hd hk)).2.2 x c hc q.symm) (R.frame.2 x c hc).2 e, r⟩
  frame := R.frame
  kl := fun a t₁ xs o e => by
    by_cases q : a = d
    · subst q; rw [Hp.put_self] at e; cases e; cases hk'
    · rw [Hp.put_ne _ _ _ q] at e; exact R.kl a t₁ xs o e
theorem Rel.updI (R : Rel prog w f ρ σ fr z s) {h' : Heap} {tk : Nat} {d C : Nat} {t t' : Nat} {fs fs' : List (Str × MV)} (hd : σ (d + 1) = some (t, .inst C fs)) (hs : Kept f.L (· = d) s.heap h')
    (x : ObjAt prog w h' (d + 1) (.inst C fs')) : Rel prog w f ρ (σ.put (d + 1) t' (.inst C fs')) fr z { s with heap := h', toks := tk } where
  same := R.same
  keep := fun a o e => let ⟨sl, e1, e2⟩ := R.keep a o e; ⟨sl, hs.1 a _ (fun q => by have := (R.apart d (.inr ⟨_, _, _, hd⟩)).1; rw [← q, e] at this; cases this) (fun q => by have := R.frame.1; rw [← q, e] at this; cases this) e1, e2⟩
  objs := fun a t₁ mo₁ e => by
    by_cases q : a = d + 1
    · subst q; rw [Hp.put_self] at e; cases e; exact x
    · rw [Hp.put_ne _ _ _ q] at e
      have hn := R.wf _ _ _ _ hd
      refine (R.objs a t₁ mo₁ e).of_same (fun o e' => hs.1 a _ (fun q2 => by subst q2; rw [hn] at e; cases e) (R.neL e) e') fun b o hb e1 e2 => ?_
      subst e1
      cases mo₁ <;> first | cases hb | skip
      exact hs.1 b _ (fun q2 => q (congrArg (· + 1) q2)) (R.apart b (.inr ⟨_, _, _, e⟩)).2.1 e2
  wf := fun a t₁ C' fs₁ e => by
    by_cases q : a = d + 1
    · subst q
      rw [Hp.put_ne _ _ _ (Nat.succ_ne_self _)] at e
      have := R.wf _ _ _ _ e; rw [hd] at this; cases this
    · rw [Hp.put_ne _ _ _ q]
      by_cases q' : a = d
      · subst q'; exact R.wf _ _ _ _ hd
      · rw [Hp.put_ne _ _ _ (fun q2 => q' (Nat.succ.inj q2))] at e; exact R.wf _ _ _ _ e
  apart := fun a fa => by
    refine R.apart a ?_
    rcases fa with ⟨t₁, mo₁, fa, fk⟩ | ⟨t₁, C, fs, e⟩
    · by_cases q : a = d + 1
      · subst q; exact .of_some hd rfl
      · rw [Hp.put_ne _ _ _ q] at fa; exact .of_some fa fk
    · by_cases q : a = d
      · subst q; exact .inr ⟨_, _, _, hd⟩
      · rw [Hp.put_ne _ _ _ (fun q2 => q (Nat.succ.inj q2))] at e; exact .inr ⟨_, _, _, e⟩
  ns := by obtain ⟨m, hn, q⟩ := R.ns; exact ⟨m, hs.2 m hn, q⟩
  cel := fun x c hc => by obtain ⟨o, v, e, r⟩ := R.cel x c hc; exact ⟨o, v, hs.1 c _ (fun q => (R.apart d (.inr ⟨_, _, _, hd⟩)).2.2 x c hc q.symm) (R.frame.2 x c hc).2 e, r⟩
  frame := R.frame
  kl := fun a t₁ xs o e => by
    by_cases q : a = d + 1
    · subst q; rw [Hp.put_self] at e; cases e
    · rw [Hp.put_ne _ _ _ q] at e; exact R.kl a t₁ xs o e
end
end Mine
open PySem PySem.W PyProof.Rows
namespace Mine
set_option genInjectivity false in
structure Cx where
  prog : Program
  w : World
  K : Frag
  p : Program
  loose : List Str
  mean : ExcName → Option Value
  mg : Str → Option Value
  mb : Str → Option Value
  glob : Str → Option MV
  meth : Nat → Str → Option Nat
  fld : Nat → Str → Bool
  init : Nat → Option Nat
  fns : Nat → Bool
def GlobAt (c : Cx) (x : Str) (v : MV) : Prop :=
  (x == ("__debug__" : Str)) = false ∧ ((∃ u, nsIn c.K mainGlobals x = some (some u) ∧ v.Is u) ∨ (nsIn c.K mainGlobals x = some none ∧ x ≠ "__name__" ∧ ∃ u, bootBuiltins x = some u ∧ v.Is u))
structure CxOk (c : Cx) : Prop where
  glob : ∀ x v, c.glob x = some v → GlobAt c x v
  meth : ∀ C x a, c.meth C x = some a → plainGet c.K C x = true ∧ findIn c.K (.ref C) x = some (some (.ref a)) ∧ isFn c.K (.ref a) = true ∧ keepIn c.K (.ref a) = true
  fld : ∀ C x, c.fld C x = true → plainGet c.K C x = true ∧ hasDictIn c.K C = true ∧ findIn c.K (.ref C) x = some none ∧ findIn c.K (.ref C) "__setattr__" = some (some (.builtin "object.__setattr__")) ∧ plainOver c.K C = true ∧ takerIn c.K C x = some none
  init : ∀ C a, c.init C = some a → makesIn c.K C = true ∧ findIn c.K (.ref C) "__init__" = some (some (.ref a)) ∧ isFn c.K (.ref a) = true ∧ keepIn c.K (.ref C) = true
  fns : ∀ a, c.fns a = true → keepIn c.K (.ref a) = true
structure Good (c : Cx) (n : Nat) (f : Fm) (fr : Nat → Option Obj) : Prop where
  ok : CxOk c
  base : ∀ a o, f.base.get? a = some o → fr a = some o
  apart : ∀ a ∈ f.slotted, f.base.get? a = none
  K : c.K.In f.base
  top : Top c.p c.loose c.mean c.mg c.mb f.base
  kind : f.env.scope.kind = .function
  globals : f.env.globals = mainGlobals
  celled : ∀ x, f.env.scope.names.lookup x = some .cell → (f.env.cells.lookup x).isSome = true
  cellk : ∀ x k, (x, k) ∈ f.env.cells → f.env.scope.names.lookup x ≠ some .local
  cellnd : (f.env.cells.map (·.2)).Nodup ∧ (f.env.cells.map (·.1)).Nodup ∧ ∀ x k, (x, k) ∈ f.env.cells → k ≠ f.env.locals
  builtins : f.env.builtins = builtinsNs
  room : f.A.depth + 2 * n < recursionLimit
  units : f.A.units + 40 * n < cLine
  frames : f.A.frames = some (f.top :: f.outer)
  topk : f.top.scope.kind = .function ∧ f.top.globals = mainGlobals ∧ f.top.builtins = builtinsNs ∧ f.top.scope.isGenerator = false ∧ f.top.scope.isCoroutine = false
  low : sysModules < f.base.objs.size
  slots : ∀ a ∈ frameAddrs (f.top :: f.outer), a = f.env.locals ∨ a ∈ f.slotted
  topL : ∃ L, f.top.frame = some L ∧ (L = f.env.locals ∨ (L ∈ f.slotted ∧ ∃ o, fr L = some o ∧ ∀ vs, o.data ≠ .fields vs)) ∧ f.base.get? L = none
  slotIn : ∀ a ∈ f.slotted, ∃ o, fr a = some o
  home : f.env.frame = f.top.frame
  outer : ∀ env ∈ f.outer, env.scope.kind ≠ .module ∧ ∃ L o, env.frame = some L ∧ L ∈ f.slotted ∧ fr L = some o ∧ ∀ vs, o.data ≠ .fields vs
abbrev Cx.M (c : Cx) : Model := model c.prog c.w
abbrev Cx.Rel (c : Cx) := Mine.Rel c.prog c.w
theorem Good.keep {c : Cx} {n : Nat} {f : Fm} {fr : Nat → Option Obj} (G : Good c n f fr) {ρ : Lo} {σ : Hp} {z s : Shared} (R : c.Rel f ρ σ fr z s) : ∀ a o, f.base.get? a = some o → s.heap.get? a = some o := fun a o e => by
  obtain ⟨sl, h1, h2⟩ := R.keep a o (G.base a o e)
  have h3 := h2 fun hm => by rw [G.apart a hm] at e; cases e
  rw [h1, h3]
theorem Good.inK {c : Cx} {n : Nat} {f : Fm} {fr : Nat → Option Obj} (G : Good c n f fr) {ρ : Lo} {σ : Hp} {z s : Shared} (R : c.Rel f ρ σ fr z s) : c.K.In s.heap := G.K.keeps (G.keep R)
theorem Good.at {c : Cx} {n : Nat} {f : Fm} {fr : Nat → Option Obj} (G : Good c n f fr) {ρ : Lo} {σ : Hp} {z s : Shared} (R : c.Rel f ρ σ fr z s) : Top c.p c.loose c.mean c.mg c.mb s.heap := G.top.keeps (G.keep R)
def XRel (c : Cx) (new : Bool) (f : Fm) (ρ : Lo) (σ : Hp) (fr : Nat → Option Obj) (z s : Shared) (C e : Nat) : Prop :=
  match new with
  | true => ∃ h vs, c.Rel f ρ σ fr z { s with heap := h } ∧ Heap.MadeExcOf h s.heap e (.ref C) vs
  | false => ∃ h t vs, c.Rel f ρ σ fr z { s with heap := h } ∧ Heap.FlyingW (hideAll h (frameAddrs (f.top :: f.outer))) (f.top :: f.outer) e (.ref C) (.ref t) s.heap ∧
      (hideAll h (frameAddrs (f.top :: f.outer))).get? t = none ∧ s.heap.TupAt t vs ∧ h.UpToSlots s.heap
abbrev EX := Bool → Nat → Nat → Hp → Prop
abbrev SX := Bool → Nat → Nat → Lo → Hp → Prop
def noX : EX := fun _ _ _ _ => False
def noSX : SX := fun _ _ _ _ _ => False
def XPost (c : Cx) (f : Fm) (fr : Nat → Option Obj) (z : Shared) (X : SX) : Value → Shared → Prop :=
  fun ev s' => ∃ b C e ρ' σ', ev = .ref e ∧ XRel c b f ρ' σ' fr z s' C e ∧ X b C e ρ' σ'
def EX.at (X : EX) (ρ : Lo) : SX := fun b C e ρ' σ' => ρ' = ρ ∧ X b C e σ'
set_option genInjectivity false in
structure Ix where
  n : Nat
  hn : Bool
  sc : Scope
def W {α μ : Type} (c : Cx) (i : Ix) (V : μ → α → Prop) (t : Env → Sem α) (ρ : Lo) (Q : μ → Hp → Prop) (X : EX) (σ : Hp) : Prop :=
  ∀ f fr z s, f.env.scope = i.sc → (i.hn = true → f.A.handled = none) → Good c i.n f fr → c.Rel f ρ σ fr z s →
    wpAny c.M f.A (t f.env) (fun a s' => ∃ m σ', V m a ∧ c.Rel f ρ σ' fr z s' ∧ Q m σ') (XPost c f fr z (X.at ρ)) s
inductive MF where
  | next | brk | cont | ret (v : MV)
def MF.Is : MF → Flow → Prop
  | .next, f => f = .next
  | .brk, f => f = .brk
  | .cont, f => f = .cont
  | .ret v, f => ∃ u, f = .ret u ∧ v.Is u
def S (c : Cx) (i : Ix) (t : Env → Sem Flow) (ρ : Lo) (Q : MF → Lo → Hp → Prop) (X : SX) (σ : Hp) : Prop :=
  ∀ f fr z s, f.env.scope = i.sc → (i.hn = true → f.A.handled = none) → Good c i.n f fr → c.Rel f ρ σ fr z s →
    wpAny c.M f.A (t f.env) (fun fl s' => ∃ m ρ' σ', MF.Is m fl ∧ c.Rel f ρ' σ' fr z s' ∧ Q m ρ' σ') (XPost c f fr z X) s
def WE (c : Cx) (i : Ix) (e : Expr) := W c i MV.Is (eval e)
def WT (c : Cx) (i : Ix) (e : Expr) (ρ : Lo) (Q : Bool → Hp → Prop) := W c i (· = ·) (fun env => isTrue e env (eval e env)) ρ Q
def WS (c : Cx) (i : Ix) (st : Stmt) := S c i (exec st)
def WSs (c : Cx) (i : Ix) (b : List Stmt) := S c i (execs b)
def WTr (c : Cx) (i : Ix) (m : MV) (ρ : Lo) (Q : Bool → Hp → Prop) (X : EX) (σ : Hp) := ∀ v, m.Is v → W c i (· = ·) (fun _ => truthy v) ρ Q X σ
def WB (c : Cx) (i : Ix) (op : Operator) (a b : MV) (ρ : Lo) (Q : MV → Hp → Prop) (X : EX) (σ : Hp) := ∀ v u, a.Is v → b.Is u → W c i MV.Is (fun _ => binaryOp op v u) ρ Q X σ
def WI (c : Cx) (i : Ix) (op : Operator) (a b : MV) (ρ : Lo) (Q : MV → Hp → Prop) (X : EX) (σ : Hp) := ∀ v u, a.Is v → b.Is u → W c i MV.Is (fun _ => inplaceOp op v u) ρ Q X σ
def WC (c : Cx) (i : Ix) (op : CmpOp) (a b : MV) (ρ : Lo) (Q : MV → Hp → Prop) (X : EX) (σ : Hp) := ∀ v u, a.Is v → b.Is u → W c i MV.Is (fun _ => compareOp op v u) ρ Q X σ
def WU (c : Cx) (i : Ix) (op : UnaryOp) (a : MV) (ρ : Lo) (Q : MV → Hp → Prop) (X : EX) (σ : Hp) := ∀ v, a.Is v → W c i MV.Is (fun _ => unaryOp op v) ρ Q X σ
def WGet (c : Cx) (i : Ix) (a : MV) (name : Str) (ρ : Lo) (Q : MV → Hp → Prop) (X : EX) (σ : Hp) := ∀ v, a.Is v → W c i MV.Is (fun _ => getAttr v name true) ρ Q X σ
def WSet (c : Cx) (i : Ix) (a : MV) (name : Str) (b : MV) (ρ : Lo) (Q : Unit → Hp → Prop) (X : EX) (σ : Hp) := ∀ v u, a.Is v → b.Is u → W c i (· = ·) (fun _ => setAttr v name u) ρ Q X σ
def WSub (c : Cx) (i : Ix) (value slice : Expr) (a b : MV) (ρ : Lo) (Q : MV → Hp → Prop) (X : EX) (σ : Hp) := ∀ v u, a.Is v → b.Is u → W c i MV.Is (fun _ => subscriptTail value slice v u) ρ Q X σ
def WPut (c : Cx) (i : Ix) (a k b : MV) (ρ : Lo) (Q : Unit → Hp → Prop) (X : EX) (σ : Hp) := ∀ v y u, a.Is v → k.Is y → b.Is u → W c i (· = ·) (fun _ => setItem v y u) ρ Q X σ
def WCall (c : Cx) (i : Ix) (fn : MV) (as : List MV) (ρ : Lo) (Q : MV → Hp → Prop) (X : EX) (σ : Hp) := ∀ v us, fn.Is v → All2 MV.Is as us → W c i MV.Is (fun _ => call v us) ρ Q X σ
def WEs (c : Cx) (i : Ix) (pos : Pos) (es : List Expr) := W c i (All2 MV.Is) (fun env => spliced (backTo pos (starEach es env)))
theorem wuse {α μ τ : Type} {M : Model} {A : Around} {t : Sem α} {V : μ → α → Prop} {Rl : τ → Shared → Prop} {Q : μ → τ → Prop} {E E' : Value → Shared → Prop} {Q' : α → Shared → Prop} {s : Shared}
    (h : wpAny M A t (fun a s' => ∃ m σ', V m a ∧ Rl σ' s' ∧ Q m σ') E s) (k : ∀ a s' m σ', V m a → Rl σ' s' → Q m σ' → Q' a s') (e : ∀ v s', E v s' → E' v s') : wpAny M A t Q' E' s :=
  wpAny_mono h (fun a s' x => x.elim fun m x => x.elim fun σ' x => k a s' m σ' x.1 x.2.1 x.2.2) e
theorem wuse4 {α τ υ : Type} {M : Model} {A : Around} {t : Sem α} {Rl : τ → υ → Shared → Prop} {Q : τ → υ → Prop} {E E' : Value → Shared → Prop} {Q' : α → Shared → Prop} {s : Shared}
    (h : wpAny M A t (fun _ s' => ∃ ρ' σ', Rl ρ' σ' s' ∧ Q ρ' σ') E s) (k : ∀ a s' ρ' σ', Rl ρ' σ' s' → Q ρ' σ' → Q' a s') (e : ∀ v s', E v s' → E' v s') : wpAny M A t Q' E' s :=
  wpAny_mono h (fun a s' x => x.elim fun m x => x.elim fun σ' x => k a s' m σ' x.1 x.2) e
theorem wuse6 {α μ τ υ : Type} {M : Model} {A : Around} {t : Sem α} {V : μ → α → Prop} {Rl : τ → υ → Shared → Prop} {Q : μ → τ → υ → Prop} {E E' : Value → Shared → Prop} {Q' : α → Shared → Prop} {s : Shared}
    (h : wpAny M A t (fun a s' => ∃ m ρ' σ', V m a ∧ Rl ρ' σ' s' ∧ Q m ρ' σ') E s) (k : ∀ a s' m ρ' σ', V m a → Rl ρ' σ' s' → Q m ρ' σ' → Q' a s') (e : ∀ v s', E v s' → E' v s') : wpAny M A t Q' E' s :=
  wpAny_mono h (fun a s' x => x.elim fun m x => x.elim fun ρ' x => x.elim fun σ' x => k a s' m ρ' σ' x.1 x.2.1 x.2.2) e
section
variable {α μ : Type} {c : Cx} {i : Ix} {V : μ → α → Prop} {t : Env → Sem α} {ρ : Lo} {Q Q' : μ → Hp → Prop} {X : EX} {σ : Hp}
theorem W.mono (h : W c i V t ρ Q X σ) (k : ∀ m σ', Q m σ' → Q' m σ') : W c i V t ρ Q' X σ := fun f fr z s a b g R =>
  wuse (h f fr z s a b g R) (fun _ _ m σ' v r q => ⟨m, σ', v, r, k m σ' q⟩) fun _ _ x => x
end
abbrev AttrPlain (e : Expr) (name : Str) : Prop := ∀ env t, attributeBase e name env t = t
abbrev TruthPlain (e : Expr) : Prop := ∀ env t, isTrue e env t = (do let v ← t; standAt e.pos; holding [v] (truthy v))
def noStar : Expr → Bool
  | .Starred .. => false
  | _ => true
theorem starEach_cons {e : Expr} {rest : List Expr} {env : Env} (h : noStar e = true) : starEach (e :: rest) env = (false, eval e env) :: starEach rest env := by
  cases e <;> first | rfl | cases h
theorem back_any {pos : Pos} {env : Env} : ∀ {es : List Expr}, es.all noStar = true → (backTo pos (starEach es env)).any (·.1) = false
  | [], _ => rfl
  | e :: r, h => by
    simp only [List.all_cons, Bool.and_eq_true] at h
    rw [starEach_cons h.1]
    show (false || _) = false
    rw [Bool.false_or]
    exact back_any h.2
section
variable {c : Cx} {i : Ix} {ρ : Lo} {σ : Hp}
theorem S.mono {t : Env → Sem Flow} {Q Q' : MF → Lo → Hp → Prop} {X : SX} (h : S c i t ρ Q X σ) (k : ∀ m ρ' σ', Q m ρ' σ' → Q' m ρ' σ') : S c i t ρ Q' X σ := fun f fr z s a b g R =>
  wuse6 (h f fr z s a b g R) (fun _ _ m ρ' σ' v r q => ⟨m, ρ', σ', v, r, k m ρ' σ' q⟩) fun _ _ x => x
variable {Q : MV → Hp → Prop} {X : EX}
theorem WE.none {k pos} (h : Q .none σ) : WE c i (.Constant .none k pos) ρ Q X σ := fun _ _ _ _ _ _ _ R => Constant_none ⟨.none, σ, rfl, R, h⟩
theorem WE.bool {b k pos} (h : Q (.bool b) σ) : WE c i (.Constant (.bool b) k pos) ρ Q X σ := fun _ _ _ _ _ _ _ R => Constant_bool ⟨.bool b, σ, rfl, R, h⟩
theorem WE.int {n k pos} (h : Q (.int n) σ) : WE c i (.Constant (.int n) k pos) ρ Q X σ := fun _ _ _ _ _ _ _ R => wpAny_Constant_int ⟨.int n, σ, ⟨_, rfl⟩, R.toks _, h⟩
theorem WE.str {x k pos} (h : Q (.str x) σ) : WE c i (.Constant (.str x) k pos) ρ Q X σ := fun _ _ _ _ _ _ _ R => Calls.Constant_str ⟨.str x, σ, ⟨_, rfl⟩, R.toks _, h⟩
theorem WE.binop {l op r pos} (h : WE c i l ρ (fun a σ₁ => WE c i r ρ (fun b σ₂ => WB c i op a b ρ Q X σ₂) X σ₁) X σ) : WE c i (.BinOp l op r pos) ρ Q X σ := fun f fr z s a b g R =>
  wpAny_BinOp (wuse (h f fr z s a b g R) (fun _ s₁ _ _ v₁ R₁ h₁ => wuse (h₁ f fr z s₁ a b g R₁) (fun _ s₂ _ _ v₂ R₂ h₂ => h₂ _ _ v₁ v₂ f fr z s₂ a b g R₂) fun _ _ x => x) fun _ _ x => x)
theorem WE.unary {op e pos} (h : WE c i e ρ (fun a σ₁ => WU c i op a ρ Q X σ₁) X σ) : WE c i (.UnaryOp op e pos) ρ Q X σ := fun f fr z s a b g R =>
  UnaryOp_ (wuse (h f fr z s a b g R) (fun _ s₁ _ _ v₁ R₁ h₁ => h₁ _ v₁ f fr z s₁ a b g R₁) fun _ _ x => x)
theorem WE.attr {e name pos} (hp : AttrPlain e name) (h : WE c i e ρ (fun a σ₁ => WGet c i a name ρ Q X σ₁) X σ) : WE c i (.Attribute e name pos) ρ Q X σ := fun f fr z s a b g R => by
  refine Attribute_any_ (wuse (h f fr z s a b g R) (fun _ s₁ _ _ v₁ R₁ h₁ => h₁ _ v₁ f fr z s₁ a b g R₁) fun _ _ x => x) ?_
  rw [← hp f.env (eval e f.env)]
  with_unfolding_all rfl
theorem WE.sub {v sl pos} (h : WE c i v ρ (fun a σ₁ => WE c i sl ρ (fun b σ₂ => WSub c i v sl a b ρ Q X σ₂) X σ₁) X σ) : WE c i (.Subscript v sl pos) ρ Q X σ := fun f fr z s a b g R =>
  Subscript_ (wuse (h f fr z s a b g R) (fun _ s₁ _ _ v₁ R₁ h₁ => wuse (h₁ f fr z s₁ a b g R₁) (fun _ s₂ _ _ v₂ R₂ h₂ => h₂ _ _ v₁ v₂ f fr z s₂ a b g R₂) fun _ _ x => x) fun _ _ x => x)
theorem WE.ifexp {t b o pos} (h : WT c i t ρ (fun k σ₁ => if k then WE c i b ρ Q X σ₁ else WE c i o ρ Q X σ₁) X σ) : WE c i (.IfExp t b o pos) ρ Q X σ := fun f fr z s a b' g R =>
  IfExp_ (wuse (h f fr z s a b' g R) (fun k s₁ k' _ e R₁ h₁ => by subst e; cases k' <;> exact h₁ f fr z s₁ a b' g R₁) fun _ _ x => x)
theorem WE.and1 {op e pos} (h : WE c i e ρ Q X σ) : WE c i (.BoolOp op [e] pos) ρ Q X σ := fun f fr z s a b g R => BoolOp_one (h f fr z s a b g R)
theorem WE.and {e₁ e₂ rest pos} (h : WE c i e₁ ρ (fun v σ₁ => WTr c i v ρ (fun k σ₂ => if k then WE c i (.BoolOp .And (e₂ :: rest) pos) ρ Q X σ₂ else Q v σ₂) X σ₁) X σ) : WE c i (.BoolOp .And (e₁ :: e₂ :: rest) pos) ρ Q X σ := fun f fr z s a b g R =>
  BoolOp_and (wuse (h f fr z s a b g R) (fun _ s₁ _ _ v₁ R₁ h₁ => wuse (h₁ _ v₁ f fr z s₁ a b g R₁) (fun k s₂ k' _ e R₂ h₂ => by
    subst e
    cases k' with
    | true => exact h₂ f fr z s₂ a b g R₂
    | false => exact ⟨_, _, v₁, R₂, h₂⟩) fun _ _ x => x) fun _ _ x => x)
theorem WE.or {e₁ e₂ rest pos} (h : WE c i e₁ ρ (fun v σ₁ => WTr c i v ρ (fun k σ₂ => if k then Q v σ₂ else WE c i (.BoolOp .Or (e₂ :: rest) pos) ρ Q X σ₂) X σ₁) X σ) : WE c i (.BoolOp .Or (e₁ :: e₂ :: rest) pos) ρ Q X σ := fun f fr z s a b g R =>
  BoolOp_or (wuse (h f fr z s a b g R) (fun _ s₁ _ _ v₁ R₁ h₁ => wuse (h₁ _ v₁ f fr z s₁ a b g R₁) (fun k s₂ k' _ e R₂ h₂ => by
    subst e
    cases k' with
    | false => exact h₂ f fr z s₂ a b g R₂
    | true => exact ⟨_, _, v₁, R₂, h₂⟩) fun _ _ x => x) fun _ _ x => x)
theorem WE.cmp1 {l op r pos} (hm : behindInMarks op r = false) (h : WE c i l ρ (fun a σ₁ => WE c i r ρ (fun b σ₂ => WC c i op a b ρ Q X σ₂) X σ₁) X σ) : WE c i (.Compare l [op] [r] pos) ρ Q X σ := fun f fr z s a b g R =>
  wpAny_Compare1 (wuse (h f fr z s a b g R) (fun _ s₁ _ _ v₁ R₁ h₁ => wuse (h₁ f fr z s₁ a b g R₁) (fun _ s₂ _ _ v₂ R₂ h₂ => h₂ _ _ v₁ v₂ f fr z s₂ a b g R₂) fun _ _ x => x) fun _ _ x => x) hm
theorem WE.cmp2 {l o₁ o₂ r₁ r₂ pos} (hm : lastMarks [o₁, o₂] [r₁, r₂] = false) (h : WE c i l ρ (fun a σ₁ => WE c i r₁ ρ (fun b σ₂ => WC c i o₁ a b ρ (fun d σ₃ => WTr c i d ρ (fun k σ₄ =>
      if k then WE c i r₂ ρ (fun b' σ₅ => WC c i o₂ b b' ρ Q X σ₅) X σ₄ else Q d σ₄) X σ₃) X σ₂) X σ₁) X σ) : WE c i (.Compare l [o₁, o₂] [r₁, r₂] pos) ρ Q X σ := fun f fr z s a b g R =>
  Compare_chain (wuse (h f fr z s a b g R) (fun _ s₁ _ _ v₁ R₁ h₁ => chain_link (wuse (h₁ f fr z s₁ a b g R₁) (fun _ s₂ _ _ v₂ R₂ h₂ => wuse (h₂ _ _ v₁ v₂ f fr z s₂ a b g R₂) (fun _ s₃ _ _ v₃ R₃ h₃ =>
    wuse (h₃ _ v₃ f fr z s₃ a b g R₃) (fun k s₄ k' _ e R₄ h₄ => by
      subst e
      cases k' with
      | true => exact chain_last (wuse (h₄ f fr z s₄ a b g R₄) (fun _ s₅ _ _ v₅ R₅ h₅ => h₅ _ _ v₂ v₅ f fr z s₅ a b g R₅) fun _ _ x => x)
      | false => exact ⟨_, _, v₃, R₄, h₄⟩) fun _ _ x => x) fun _ _ x => x) fun _ _ x => x)) fun _ _ x => x) hm
end
section
variable {c : Cx} {i : Ix} {ρ : Lo} {σ : Hp} {Q : Bool → Hp → Prop} {X : EX}
theorem WT.plain {e : Expr} (hp : TruthPlain e) (h : WE c i e ρ (fun v σ₁ => WTr c i v ρ Q X σ₁) X σ) : WT c i e ρ Q X σ := fun f fr z s a b g R =>
  isTrue_plain (wuse (h f fr z s a b g R) (fun _ s₁ _ _ v₁ R₁ h₁ => h₁ _ v₁ f fr z s₁ a b g R₁) fun _ _ x => x) (hp _ _)
theorem WT.not {e pos} (h : WT c i e ρ (fun k σ₁ => Q (!k) σ₁) X σ) : WT c i (.UnaryOp .Not e pos) ρ Q X σ := fun f fr z s a b g R =>
  isTrue_not (wuse (h f fr z s a b g R) (fun _ s₁ _ _ e R₁ h₁ => ⟨_, _, congrArg _ e, R₁, h₁⟩) fun _ _ x => x)
def WA (c : Cx) (i : Ix) (op : BoolOp) (es : List Expr) (pos : Pos) (t : Env → Sem Value) (ρ : Lo) (Q : Bool → Hp → Prop) := W c i (· = ·) (fun env => isTrue (.BoolOp op es pos) env (t env)) ρ Q
theorem WA.and_nil {pos t} (h : Q true σ) : WA c i .And [] pos t ρ Q X σ := fun f fr z s a b g R => isTrue_and_nil ⟨_, _, rfl, R, h⟩
theorem WA.or_nil {pos t} (h : Q false σ) : WA c i .Or [] pos t ρ Q X σ := fun f fr z s a b g R => isTrue_or_nil ⟨_, _, rfl, R, h⟩
theorem WA.and {e rest pos t} (h : WT c i e ρ (fun k σ₁ => if k then WA c i .And rest pos t ρ Q X σ₁ else Q false σ₁) X σ) : WA c i .And (e :: rest) pos t ρ Q X σ := fun f fr z s a b g R =>
  isTrue_and (wuse (h f fr z s a b g R) (fun _ s₁ k _ e R₁ h₁ => by
    subst e
    cases k with
    | true => exact h₁ f fr z s₁ a b g R₁
    | false => exact ⟨_, _, rfl, R₁, h₁⟩) fun _ _ x => x)
theorem WA.or {e rest pos t} (h : WT c i e ρ (fun k σ₁ => if k then Q true σ₁ else WA c i .Or rest pos t ρ Q X σ₁) X σ) : WA c i .Or (e :: rest) pos t ρ Q X σ := fun f fr z s a b g R =>
  isTrue_or (wuse (h f fr z s a b g R) (fun _ s₁ k _ e R₁ h₁ => by
    subst e
    cases k with
    | false => exact h₁ f fr z s₁ a b g R₁
    | true => exact ⟨_, _, rfl, R₁, h₁⟩) fun _ _ x => x)
theorem WT.bool {op es pos} (h : WA c i op es pos (eval (.BoolOp op es pos)) ρ Q X σ) : WT c i (.BoolOp op es pos) ρ Q X σ := h
theorem WT.cmp1 {l op r pos} (hm : behindInMarks op r = false) (h : WE c i l ρ (fun a σ₁ => WE c i r ρ (fun b σ₂ => WC c i op a b ρ (fun d σ₃ => WTr c i d ρ Q X σ₃) X σ₂) X σ₁) X σ) : WT c i (.Compare l [op] [r] pos) ρ Q X σ := fun f fr z s a b g R =>
  wpAny_isTrue_Compare1 (wuse (h f fr z s a b g R) (fun _ s₁ _ _ v₁ R₁ h₁ => wuse (h₁ f fr z s₁ a b g R₁) (fun _ s₂ _ _ v₂ R₂ h₂ => wuse (h₂ _ _ v₁ v₂ f fr z s₂ a b g R₂) (fun _ s₃ _ _ v₃ R₃ h₃ => h₃ _ v₃ f fr z s₃ a b g R₃) fun _ _ x => x) fun _ _ x => x) fun _ _ x => x) hm
theorem WT.cmp2 {l o₁ o₂ r₁ r₂ pos} (hm : lastMarks [o₁, o₂] [r₁, r₂] = false) (h : WE c i l ρ (fun a σ₁ => WE c i r₁ ρ (fun b σ₂ => WC c i o₁ a b ρ (fun d σ₃ => WTr c i d ρ (fun k σ₄ =>
      if k then WE c i r₂ ρ (fun b' σ₅ => WC c i o₂ b b' ρ (fun d' σ₆ => WTr c i d' ρ Q X σ₆) X σ₅) X σ₄ else Q false σ₄) X σ₃) X σ₂) X σ₁) X σ) : WT c i (.Compare l [o₁, o₂] [r₁, r₂] pos) ρ Q X σ := fun f fr z s a b g R =>
  isTrue_chain (wuse (h f fr z s a b g R) (fun _ s₁ _ _ v₁ R₁ h₁ => test_link (wuse (h₁ f fr z s₁ a b g R₁) (fun _ s₂ _ _ v₂ R₂ h₂ => wuse (h₂ _ _ v₁ v₂ f fr z s₂ a b g R₂) (fun _ s₃ _ _ v₃ R₃ h₃ =>
    wuse (h₃ _ v₃ f fr z s₃ a b g R₃) (fun k s₄ k' _ e R₄ h₄ => by
      subst e
      cases k' with
      | true => exact test_last (wuse (h₄ f fr z s₄ a b g R₄) (fun _ s₅ _ _ v₅ R₅ h₅ => wuse (h₅ _ _ v₂ v₅ f fr z s₅ a b g R₅) (fun _ s₆ _ _ v₆ R₆ h₆ => h₆ _ v₆ f fr z s₆ a b g R₆) fun _ _ x => x) fun _ _ x => x)
      | false => exact ⟨_, _, rfl, R₄, h₄⟩) fun _ _ x => x) fun _ _ x => x) fun _ _ x => x)) fun _ _ x => x) hm
end
end Mine
open PySem PySem.W PyProof.Rows
namespace Mine
theorem mem_lookup {α : Type} {l : List (Str × α)} {x : Str} {a : α} (h : l.lookup x = some a) : (x, a) ∈ l := by
  induction l with
  | nil => cases h
  | cons p r ih =>
    obtain ⟨y, b⟩ := p
    rw [List.lookup_cons] at h
    cases hy : (x == y) with
    | true => rw [hy] at h; cases h; rw [beq_iff_eq.mp hy]; exact .head _
    | false => rw [hy] at h; exact .tail _ (ih h)
section
variable {c : Cx} {i : Ix} {ρ : Lo} {σ : Hp} {Q : MV → Hp → Prop} {X : EX}
theorem kindAt {f : Fm} {x : Str} {k : NameKind} (a : f.env.scope = i.sc) (h : i.sc.names.lookup x = some k) : f.env.kindOf x = some k := by
  show f.env.scope.names.lookup x = _; rw [a]; exact h
theorem WE.local {x pos v} (hl : i.sc.names.lookup x = some .local) (hd : (x == ("__debug__" : Str)) = false) (hv : ρ x = some v) (h : Q v σ) : WE c i (.Name x pos) ρ Q X σ := fun f fr z s a b g R => by
  obtain ⟨m, hn, hm⟩ := R.ns
  have := hm x (kindAt a hl)
  rw [hv] at this
  cases e : m x with
  | none => rw [e] at this; exact this.elim
  | some u => rw [e] at this; exact wpAny_Name (wpAny_loadName_local g.kind (kindAt a hl) hn e ⟨v, σ, this, R, h⟩) hd
theorem WE.cell {x pos v} (hl : i.sc.names.lookup x = some .cell) (hd : (x == ("__debug__" : Str)) = false) (hv : ρ x = some v) (h : Q v σ) : WE c i (.Name x pos) ρ Q X σ := fun f fr z s a b g R => by
  obtain ⟨k, hk⟩ := Option.isSome_iff_exists.mp (g.celled x (kindAt a hl))
  obtain ⟨o, u, ho, hd', hu⟩ := R.cel x k (mem_lookup hk)
  rw [hv] at hu
  cases u with
  | none => exact hu.elim
  | some u => exact wpAny_Name (wpAny_loadName_cell g.kind (kindAt a hl) hk ⟨o, ho, hd'⟩ ⟨v, σ, hu, R, h⟩) hd
theorem WE.global {x pos v} (hl : i.sc.names.lookup x = some .globalImplicit) (hv : c.glob x = some v) (h : Q v σ) : WE c i (.Name x pos) ρ Q X σ := fun f fr z s a b g R => by
  obtain ⟨hd, ⟨u, hu, is⟩ | ⟨hno, hn, u, hu, is⟩⟩ := g.ok.glob x v hv
  · refine Calls.Name_function_global g.kind (kindAt a hl) (Calls.loadGlobal_global (mg := c.mg) (v := u) (by rw [g.globals]; exact (g.at R).g) (mg_of g.K g.top.g hu) ⟨v, σ, is, R, h⟩) hd
  · refine Calls.Name_function_global g.kind (kindAt a hl) (Calls.loadGlobal_builtin (mg := c.mg) (mb := c.mb) (v := u) (by rw [g.globals]; exact (g.at R).g) (mg_none_of g.K g.top.g hno) (by rw [g.builtins]; exact (g.at R).b)
      ((g.top.builtins x hn).trans hu) ⟨v, σ, is, R, h⟩) hd
end
def Callee (c : Cx) : MV → Prop
  | .ref a => c.fns a = true ∨ (∃ C x, c.meth C x = some a) ∨ ∃ b, c.init a = some b
  | .con v => ∀ a, v ≠ .ref a
  | _ => False
theorem Callee.keeper {c : Cx} (ok : CxOk c) {fn : MV} {v : Value} {h : Heap} (K : c.K.In h) (x : Callee c fn) (is : fn.Is v) : ∃ k, (k = Keeper.frame ∨ k = Keeper.machine ∨ k = Keeper.boundFrame) ∧ Looks c.M h (keeperOf v) k := by
  cases fn with
  | ref a =>
    cases is
    rcases x with x | ⟨C, y, x⟩ | ⟨b, x⟩
    · exact keeps_K (ok.fns a x) h K
    · exact keeps_K (ok.meth C y a x).2.2.2 h K
    · exact keeps_K (ok.init a b x).2.2.2 h K
  | con u =>
    cases is
    refine ⟨.machine, .inr (.inl rfl), ?_⟩
    cases v <;> first | exact Looks.of_pure rfl | exact absurd rfl (x _)
  | _ => exact x.elim
section
variable {c : Cx} {i : Ix} {ρ : Lo} {σ : Hp} {X : EX}
theorem WEs.nil {pos} {Q : List MV → Hp → Prop} (h : Q [] σ) : WEs c i pos [] ρ Q X σ := fun f fr z s a b g R => spliced_none ⟨[], σ, .nil, R, h⟩
theorem WEs.cons {pos e es} {Q : List MV → Hp → Prop} (hs : noStar e = true) (h : WE c i e ρ (fun v σ₁ => WEs c i pos es ρ (fun vs σ₂ => Q (v :: vs) σ₂) X σ₁) X σ) : WEs c i pos (e :: es) ρ Q X σ := fun f fr z s a b g R =>
  spliced_more (wuse (h f fr z s a b g R) (fun _ s₁ _ _ v₁ R₁ h₁ => wuse (h₁ f fr z s₁ a b g R₁) (fun _ s₂ _ _ v₂ R₂ h₂ => ⟨_, _, .cons v₁ v₂, R₂, h₂⟩) fun _ _ x => x) fun _ _ x => x) (starEach_cons hs)
theorem W.callWith {pos : Pos} {fn : MV} {v : Value} {first : List MV} {us : List Value} {es : List Expr} {Q : MV → Hp → Prop} (ic : Callee c fn) (iv : fn.Is v) (iu : All2 MV.Is first us) (hs : es.all noStar = true)
    (h : WEs c i pos es ρ (fun vs σ₁ => WCall c i fn (first ++ vs) ρ Q X σ₁) X σ) : W c i MV.Is (fun env => callWith pos v us (backTo pos (starEach es env)) []) ρ Q X σ := fun f fr z s a b g R => by
  refine callWith_of (P := fun h => c.K.In h) ?_ (fun h K => ic.keeper g.ok K iv) ?_
  · rw [back_any hs]; rfl
  · cases es with
    | nil =>
      refine evalArgs_nil3 ?_
      obtain h := h f fr z s a b g R
      refine ⟨g.inK R, ?_⟩
      have h := h
      have key : wpAny c.M f.A (spliced (backTo pos (starEach [] f.env))) (fun vs s₁ => vs = [] → s₁ = s → wpAny c.M f.A (call v (us ++ [])) (fun a s' => ∃ m σ', MV.Is m a ∧ c.Rel f ρ σ' fr z s' ∧ Q m σ') (XPost c f fr z (X.at ρ)) s) (XPost c f fr z (X.at ρ)) s := by
        refine wpAny_mono h (fun vs s₁ ⟨ms, σ₁, iv', R₁, h₁⟩ e1 e2 => ?_) fun _ _ x => x
        subst e1 e2
        cases iv'
        exact h₁ _ _ iv (iu.append .nil) f fr z _ a b g R₁
      intro Γ p hΓ
      exact key Γ p hΓ rfl rfl Γ p hΓ
    | cons e es =>
      have hs' := hs
      simp only [List.all_cons, Bool.and_eq_true] at hs'
      have h := h f fr z s a b g R
      dsimp only at h
      rw [starEach_cons hs'.1] at h ⊢
      refine Calls.evalArgs_plain (wpAny_mono h (fun vs s₁ ⟨ms, σ₁, iv', R₁, h₁⟩ => ⟨g.inK R₁, h₁ _ _ iv (iu.append iv') f fr z s₁ a b g R₁⟩) fun _ _ x => x)
theorem WE.call {fe es pos} {Q : MV → Hp → Prop} (hf : (match fe with | .Attribute .. => false | _ => true) = true) (hs : es.all noStar = true)
    (h : WE c i fe ρ (fun fn σ₁ => Callee c fn ∧ WEs c i pos es ρ (fun vs σ₂ => WCall c i fn vs ρ Q X σ₂) X σ₁) X σ) : WE c i (.Call fe es [] pos) ρ Q X σ := fun f fr z s a b g R =>
  Call_ (wpAny_mono (h f fr z s a b g R) (fun _ s₁ ⟨fn, _, v₁, R₁, ic, h₁⟩ => W.callWith (first := []) ic v₁ .nil hs h₁ f fr z s₁ a b g R₁) fun _ _ x => x) (by cases fe <;> first | rfl | cases hf)
end
theorem eval_method {o : Expr} {name : Str} {apos pos : Pos} {es : List Expr} {env : Env} (hp : AttrPlain o name) (hs : es.all noStar = true) (hl : decide (es.length < 30) = true) (hpos : (apos.endLine == pos.line) = true) :
    eval (.Call (.Attribute o name apos) es [] pos) env = (do
      let ov ← eval o env
      standAt apos.atName
      let (f, first) ← holding [ov] (getMethod ov name (do return (← importBound o env).getD true))
      callWith pos f first (backTo pos (starEach es env)) []) := by
  have h1 : methodCallForm (es.length + 0) (backTo pos (starEach es env)) [] = true := by
    unfold methodCallForm
    have : (backTo pos (starEach es env)).all (fun x => !x.1) = true := by
      have h := back_any (pos := pos) (env := env) hs
      rw [List.all_eq_not_any_not]
      simp only [Bool.not_not]
      rw [h]; rfl
    rw [this]
    simp only [List.all_nil, List.isEmpty_nil, if_true, Bool.and_self, Bool.true_and]
    simpa using of_decide_eq_true hl
  have e0 : eval (.Call (.Attribute o name apos) es [] pos) env = (do
      let ov ← attributeBase o name env (eval o env)
      standAt apos.atName
      methodCall o name apos pos env ov (es.length + 0) (backTo pos (starEach es env)) []) := by with_unfolding_all rfl
  rw [e0, hp]
  unfold methodCall
  rw [h1]
  have h2 : methodCallPos true o env apos pos = pure pos := by unfold methodCallPos; rw [hpos]; rfl
  rw [h2]
  rfl
def PairIs (x : MV × List MV) (y : Value × List Value) : Prop := x.1.Is y.1 ∧ All2 MV.Is x.2 y.2
def WM (c : Cx) (i : Ix) (ov : MV) (name : Str) (ρ : Lo) (Q : MV × List MV → Hp → Prop) (X : EX) (σ : Hp) := ∀ v pl, ov.Is v → W c i PairIs (fun _ => getMethod v name pl) ρ Q X σ
section
variable {c : Cx} {i : Ix} {ρ : Lo} {σ : Hp} {X : EX}
theorem WE.method {o name apos es pos} {Q : MV → Hp → Prop} (hp : AttrPlain o name) (hs : es.all noStar = true) (hl : decide (es.length < 30) = true) (hpos : (apos.endLine == pos.line) = true)
    (h : WE c i o ρ (fun ov σ₁ => WM c i ov name ρ (fun fx σ₂ => Callee c fx.1 ∧ WEs c i pos es ρ (fun vs σ₃ => WCall c i fx.1 (fx.2 ++ vs) ρ Q X σ₃) X σ₂) X σ₁) X σ) : WE c i (.Call (.Attribute o name apos) es [] pos) ρ Q X σ := fun f fr z s a b g R =>
  MethodCall_ (wpAny_mono (h f fr z s a b g R) (fun _ s₁ ⟨_, _, v₁, R₁, h₁⟩ => wpAny_mono (h₁ _ _ v₁ f fr z s₁ a b g R₁) (fun fx s₂ ⟨_, _, v₂, R₂, ic, h₂⟩ => W.callWith ic v₂.1 v₂.2 hs h₂ f fr z s₂ a b g R₂) fun _ _ x => x) fun _ _ x => x) (eval_method hp hs hl hpos)
end
def WSt (c : Cx) (i : Ix) (x : Str) (v : MV) (ρ : Lo) (Q : Lo → Hp → Prop) (X : SX) (σ : Hp) : Prop :=
  ∀ u, v.Is u → ∀ f fr z s, f.env.scope = i.sc → (i.hn = true → f.A.handled = none) → Good c i.n f fr → c.Rel f ρ σ fr z s →
    wpAny c.M f.A (storeName f.env x u) (fun _ s' => ∃ ρ' σ', c.Rel f ρ' σ' fr z s' ∧ Q ρ' σ') (XPost c f fr z X) s
theorem Rel.putLocal {c : Cx} {f : Fm} {ρ : Lo} {σ : Hp} {fr : Nat → Option Obj} {z s : Shared} (R : c.Rel f ρ σ fr z s) {x : Str} {v : MV} {u : Value} (is : v.Is u) {m : Str → Option Value} {h' : Heap} {tk : Nat}
    (hm : ∀ y, f.env.scope.names.lookup y = some .local → OptIs (ρ y) (m y)) (hn : h'.Ns f.env.locals (fun y => if y = x then some u else m y)) (hs : Heap.SameBut f.env.locals s.heap h')
    (hx : f.env.scope.names.lookup x = some .local) (hc : ∀ k, (x, k) ∉ f.env.cells) (hcl : ∀ y k, (y, k) ∈ f.env.cells → k ≠ f.env.locals) : c.Rel f (ρ.put x v) σ fr z { s with heap := h', toks := tk } where
  same := R.same
  keep := fun a o e => let ⟨sl, e1, e2⟩ := R.keep a o e; ⟨sl, (hs.2 a fun q => by have := R.frame.1; rw [show f.L = a from q.symm, e] at this; cases this).trans e1, e2⟩
  objs := fun a t mo e => (R.objs a t mo e).of_same (fun o e' => (hs.2 a (R.neL e)).trans e') fun d o hi ed e' => (hs.2 d (by
    subst ed
    cases mo <;> first | cases hi | skip
    exact (R.apart d (.inr ⟨_, _, _, e⟩)).2.1)).trans e'
  wf := R.wf
  apart := R.apart
  ns := ⟨_, hn, fun y hy => by
    by_cases q : y = x
    · subst q; simp only [Lo.put, if_true]; exact is
    · simp only [Lo.put, if_neg q]; exact hm y hy⟩
  cel := fun y k hk => by
    obtain ⟨o, v', e, d, r⟩ := R.cel y k hk
    refine ⟨o, v', (hs.2 k (hcl y k hk)).trans e, d, ?_⟩
    have : y ≠ x := fun q => hc k (q ▸ hk)
    simp only [Lo.put, if_neg this]; exact r
  frame := R.frame
  kl := R.kl
theorem Rel.putCell {c : Cx} {f : Fm} {ρ : Lo} {σ : Hp} {fr : Nat → Option Obj} {z s : Shared} (R : c.Rel f ρ σ fr z s) {x : Str} {v : MV} {u : Value} (is : v.Is u) {h' : Heap} {tk : Nat} {k : Nat}
    (hk : (x, k) ∈ f.env.cells) (hi : h'.IsCell k (some u)) (hs : Heap.SameBut k s.heap h') (hx : f.env.scope.names.lookup x ≠ some .local) (hnd : (f.env.cells.map (·.2)).Nodup ∧ (f.env.cells.map (·.1)).Nodup ∧ ∀ x k, (x, k) ∈ f.env.cells → k ≠ f.env.locals) : c.Rel f (ρ.put x v) σ fr z { s with heap := h', toks := tk } where
  same := R.same
  keep := fun a o e => let ⟨sl, e1, e2⟩ := R.keep a o e; ⟨sl, (hs.2 a fun q => by have := (R.frame.2 x k hk).1; rw [← q, e] at this; cases this).trans e1, e2⟩
  objs := fun a t mo e => (R.objs a t mo e).of_same (fun o e' => (hs.2 a (R.neC e hk)).trans e') fun d o hi ed e' => (hs.2 d (by
    subst ed
    cases mo <;> first | cases hi | skip
    exact (R.apart d (.inr ⟨_, _, _, e⟩)).2.2 x k hk)).trans e'
  wf := R.wf
  apart := R.apart
  ns := by
    obtain ⟨m, hn, hm⟩ := R.ns
    refine ⟨m, hn.sameBut hs (Ne.symm (hnd.2.2 x k hk)), fun y hy => ?_⟩
    have : y ≠ x := fun q => hx (q ▸ hy)
    simp only [Lo.put, if_neg this]; exact hm y hy
  cel := fun y k' hk' => by
    by_cases q : y = x
    · subst q
      have : k' = k := by
        have h1 := hnd.2.1
        have : ∀ (l : List (Str × Nat)), (l.map (·.1)).Nodup → (y, k') ∈ l → (y, k) ∈ l → k' = k := by
          intro l
          induction l with
          | nil => intro _ h; cases h
          | cons p r ih =>
            intro hn ha hb
            simp only [List.map_cons, List.nodup_cons] at hn
            rcases List.mem_cons.mp ha with ha | ha <;> rcases List.mem_cons.mp hb with hb | hb
            · rw [← ha] at hb; cases hb; rfl
            · exact absurd (List.mem_map.mpr ⟨_, hb, by rw [← ha]⟩) hn.1
            · exact absurd (List.mem_map.mpr ⟨_, ha, by rw [← hb]⟩) hn.1
            · exact ih hn.2 ha hb
        exact this _ h1 hk' hk
      subst this
      obtain ⟨o, ho, hd⟩ := hi
      exact ⟨o, some u, ho, hd, by simp only [Lo.put, if_true]; exact is⟩
    · obtain ⟨o, v', e, d, r⟩ := R.cel y k' hk'
      have hne : k' ≠ k := fun q2 => by
        subst q2
        have h1 := hnd.1
        have : ∀ (l : List (Str × Nat)), (l.map (·.2)).Nodup → (y, k') ∈ l → (x, k') ∈ l → y = x := by
          intro l
          induction l with
          | nil => intro _ h; cases h
          | cons p r ih =>
            intro hn ha hb
            simp only [List.map_cons, List.nodup_cons] at hn
            rcases List.mem_cons.mp ha with ha | ha <;> rcases List.mem_cons.mp hb with hb | hb
            · rw [← ha] at hb; cases hb; rfl
            · exact absurd (List.mem_map.mpr ⟨_, hb, by rw [← ha]⟩) hn.1
            · exact absurd (List.mem_map.mpr ⟨_, ha, by rw [← hb]⟩) hn.1
            · exact ih hn.2 ha hb
        exact q (this _ h1 hk' hk)
      refine ⟨o, v', (hs.2 k' hne).trans e, d, ?_⟩
      simp only [Lo.put, if_neg q]; exact r
  frame := R.frame
  kl := R.kl
section
variable {c : Cx} {i : Ix} {ρ : Lo} {σ : Hp} {X : SX}
theorem WSt.local {x v} {Q : Lo → Hp → Prop} (hl : i.sc.names.lookup x = some .local) (h : Q (ρ.put x v) σ) : WSt c i x v ρ Q X σ := fun u is f fr z s a b g R => by
  obtain ⟨m, hn, hm⟩ := R.ns
  refine wpAny_storeName_local (kindAt a hl) hn (fun h' hn' hs' => ⟨_, _, R.putLocal is hm hn' hs' (kindAt a hl) (fun k hk => g.cellk x k hk (kindAt a hl)) (fun y k hk => g.cellnd.2.2 y k hk), h⟩) ?_
  rw [g.kind]; rfl
theorem WSt.cell {x v} {Q : Lo → Hp → Prop} (hl : i.sc.names.lookup x = some .cell) (h : Q (ρ.put x v) σ) : WSt c i x v ρ Q X σ := fun u is f fr z s a b g R => by
  obtain ⟨k, hk⟩ := Option.isSome_iff_exists.mp (g.celled x (kindAt a hl))
  obtain ⟨o, w, ho, hd', hu⟩ := R.cel x k (mem_lookup hk)
  refine wpAny_storeName_cell g.kind (kindAt a hl) hk ⟨o, ho, hd'⟩ fun h' hi hs => ⟨_, _, R.putCell is (mem_lookup hk) hi hs (by rw [show f.env.scope.names.lookup x = some .cell from kindAt a hl]; intro q; cases q) g.cellnd, h⟩
abbrev NoComp (e : Expr) : Prop := ∀ t n env, swapsWith e t n env = pure false
theorem Ex.at {f : Fm} {fr : Nat → Option Obj} {z : Shared} {X : SX} {ρ : Lo} {v : Value} {s : Shared} (h : XPost c f fr z (EX.at (fun b C e σ' => X b C e ρ σ') ρ) v s) : XPost c f fr z X v s := by
  obtain ⟨b, C, e, ρ', σ', rfl, r, rfl, q⟩ := h
  exact ⟨b, C, e, _, σ', rfl, r, q⟩
variable {Q : MF → Lo → Hp → Prop}
abbrev SX.ex (X : SX) (ρ : Lo) : EX := fun b C e σ' => X b C e ρ σ'
theorem WSs.nil (h : Q .next ρ σ) : WSs c i [] ρ Q X σ := fun f fr z s a b g R => wpAny_execs_nil ⟨.next, ρ, σ, rfl, R, h⟩
theorem WSs.cons {st rest} (h : WS c i st ρ (fun m ρ₁ σ₁ => match m with | .next => WSs c i rest ρ₁ Q X σ₁ | m => Q m ρ₁ σ₁) X σ) : WSs c i (st :: rest) ρ Q X σ := fun f fr z s a b g R =>
  wpAny_execs_cons (wuse6 (h f fr z s a b g R) (fun fl s₁ m ρ₁ σ₁ is R₁ h₁ => by
    cases m with
    | next => cases is; exact h₁ f fr z s₁ a b g R₁
    | brk => cases is; exact ⟨.brk, ρ₁, σ₁, rfl, R₁, h₁⟩
    | cont => cases is; exact ⟨.cont, ρ₁, σ₁, rfl, R₁, h₁⟩
    | ret v => obtain ⟨u, rfl, is⟩ := is; exact ⟨.ret v, ρ₁, σ₁, ⟨u, rfl, is⟩, R₁, h₁⟩) fun _ _ x => x)
theorem WS.brk {pos} (h : Q .brk ρ σ) : WS c i (.Break pos) ρ Q X σ := fun f fr z s a b g R => wpAny_Break ⟨.brk, ρ, σ, rfl, R, h⟩
theorem WS.expr {e pos} (hi : NoComp e) (h : WE c i e ρ (fun v σ₁ => Q .next ρ σ₁) (X.ex ρ) σ) : WS c i (.Expr e pos) ρ Q X σ := fun f fr z s a b g R =>
  wpAny_Expr_any (wuse (h f fr z s a b g R) (fun _ s₁ _ σ₁ _ R₁ h₁ => ⟨.next, ρ, σ₁, rfl, R₁, h₁⟩) fun _ _ x => Ex.at x) (by
    show (f.env.scope.kind == .module && _) = false
    rw [g.kind]; rfl) (hi _ _ _)
theorem WS.ret {e pos} (h : WE c i e ρ (fun v σ₁ => Q (.ret v) ρ σ₁) (X.ex ρ) σ) : WS c i (.Return (some e) pos) ρ Q X σ := fun f fr z s a b g R =>
  wpAny_Return_some (wuse (h f fr z s a b g R) (fun u s₁ v σ₁ is R₁ h₁ => ⟨.ret v, ρ, σ₁, ⟨u, rfl, is⟩, R₁, h₁⟩) fun _ _ x => Ex.at x)
theorem WS.assign {x xp e pos} (hi : NoComp e) (h : WE c i e ρ (fun v σ₁ => WSt c i x v ρ (fun ρ₂ σ₂ => Q .next ρ₂ σ₂) X σ₁) (X.ex ρ) σ) : WS c i (.Assign [.Name x xp] e pos) ρ Q X σ := fun f fr z s a b g R =>
  wpAny_Assign_Name (wuse (h f fr z s a b g R) (fun u s₁ v σ₁ is R₁ h₁ => wuse4 (h₁ u is f fr z s₁ a b g R₁) (fun _ s₂ ρ₂ σ₂ R₂ h₂ => ⟨.next, ρ₂, σ₂, rfl, R₂, h₂⟩) fun _ _ x => x) fun _ _ x => Ex.at x) (hi _ _ _)
theorem WS.setAttr {o name op e pos} (hi : NoComp e) (h : WE c i e ρ (fun v σ₁ => WE c i o ρ (fun ov σ₂ => WSet c i ov name v ρ (fun _ σ₃ => Q .next ρ σ₃) (X.ex ρ) σ₂) (X.ex ρ) σ₁) (X.ex ρ) σ) : WS c i (.Assign [.Attribute o name op] e pos) ρ Q X σ := fun f fr z s a b g R =>
  plainObj_wpAny_Assign_Attribute (wuse (h f fr z s a b g R) (fun u s₁ v σ₁ is R₁ h₁ => wuse (h₁ f fr z s₁ a b g R₁) (fun u₂ s₂ v₂ σ₂ is₂ R₂ h₂ => wpAny_mono (h₂ _ _ is₂ is f fr z s₂ a b g R₂)
    (fun _ s₃ ⟨_, σ₃, _, R₃, h₃⟩ => ⟨.next, ρ, σ₃, rfl, R₃, h₃⟩) fun _ _ x => Ex.at x) fun _ _ x => Ex.at x) fun _ _ x => Ex.at x) (hi _ _ _)
theorem WS.setItem {o k op e pos} (hi : NoComp e) (h : WE c i e ρ (fun v σ₁ => WE c i o ρ (fun ov σ₂ => WE c i k ρ (fun kv σ₃ => WPut c i ov kv v ρ (fun _ σ₄ => Q .next ρ σ₄) (X.ex ρ) σ₃) (X.ex ρ) σ₂) (X.ex ρ) σ₁) (X.ex ρ) σ) :
    WS c i (.Assign [.Subscript o k op] e pos) ρ Q X σ := fun f fr z s a b g R =>
  wpAny_Assign_Subscript (wuse (h f fr z s a b g R) (fun u s₁ v σ₁ is R₁ h₁ => wuse (h₁ f fr z s₁ a b g R₁) (fun u₂ s₂ v₂ σ₂ is₂ R₂ h₂ => wuse (h₂ f fr z s₂ a b g R₂) (fun u₃ s₃ v₃ σ₃ is₃ R₃ h₃ =>
    wuse (h₃ _ _ _ is₂ is₃ is f fr z s₃ a b g R₃) (fun _ s₄ _ σ₄ _ R₄ h₄ => ⟨.next, ρ, σ₄, rfl, R₄, h₄⟩) fun _ _ x => Ex.at x) fun _ _ x => Ex.at x) fun _ _ x => Ex.at x) fun _ _ x => Ex.at x) (hi _ _ _)
theorem WS.augAttr {o name tp op e pos} (h : WE c i o ρ (fun ov σ₁ => WGet c i ov name ρ (fun old σ₂ => WE c i e ρ (fun v σ₃ => WI c i op old v ρ (fun n σ₄ => WSet c i ov name n ρ (fun _ σ₅ => Q .next ρ σ₅) (X.ex ρ) σ₄) (X.ex ρ) σ₃) (X.ex ρ) σ₂) (X.ex ρ) σ₁) (X.ex ρ) σ) :
    WS c i (.AugAssign (.Attribute o name tp) op e pos) ρ Q X σ := fun f fr z s a b g R =>
  wpAny_AugAssign_AttributeAny (wuse (h f fr z s a b g R) (fun u s₁ v σ₁ is R₁ h₁ => wuse (h₁ _ is f fr z s₁ a b g R₁) (fun u₂ s₂ v₂ σ₂ is₂ R₂ h₂ => wuse (h₂ f fr z s₂ a b g R₂) (fun u₃ s₃ v₃ σ₃ is₃ R₃ h₃ =>
    wuse (h₃ _ _ is₂ is₃ f fr z s₃ a b g R₃) (fun u₄ s₄ _ σ₄ is₄ R₄ h₄ => wuse (h₄ _ _ is is₄ f fr z s₄ a b g R₄) (fun _ s₅ _ σ₅ _ R₅ h₅ => ⟨.next, ρ, σ₅, rfl, R₅, h₅⟩) fun _ _ x => Ex.at x) fun _ _ x => Ex.at x) fun _ _ x => Ex.at x) fun _ _ x => Ex.at x) fun _ _ x => Ex.at x)
theorem WS.ite {t b o pos} (h : WT c i t ρ (fun k σ₁ => if k then WSs c i b ρ Q X σ₁ else WSs c i o ρ Q X σ₁) (X.ex ρ) σ) : WS c i (.If t b o pos) ρ Q X σ := fun f fr z s a b' g R =>
  wpAny_If (wuse (h f fr z s a b' g R) (fun k s₁ k' σ₁ e R₁ h₁ => by subst e; cases k' <;> exact h₁ f fr z s₁ a b' g R₁) fun _ _ x => Ex.at x)
end
end Mine
open PySem PySem.W PyProof.Rows
namespace Mine
def bindLo : List Str → List MV → Lo → Lo
  | p :: ps, a :: as, ρ => bindLo ps as (ρ.put p a)
  | _, _, ρ => ρ
def scopeOk (scope : Scope) (ps : List Str) : Bool :=
  scope.kind == .function && !scope.isCoroutine && !scope.isGenerator &&
  ps.all (fun x => scope.names.lookup x == some .local || scope.names.lookup x == some .cell) &&
  (cellsFrom 0 scope.names []).all (fun p => scope.names.lookup p.1 != some .local) && decide ((cellsFrom 0 scope.names []).map (·.1)).Nodup
theorem bindLo_local {kind : Str → Option NameKind} {x : Str} (hx : kind x = some .local) : ∀ {ps : List Str} {as : List MV} {us : List Value} {ρ : Lo} {m : Str → Option Value}, All2 MV.Is as us → OptIs (ρ x) (m x) → OptIs (bindLo ps as ρ x) (bindL kind (ps.zip us) m x)
  | [], as, us, ρ, m, _, h => by simpa [bindLo, bindL] using h
  | p :: ps, [], us, ρ, m, hh, h => by cases hh; simpa [bindLo, bindL] using h
  | p :: ps, a :: as, _, ρ, m, .cons r rs, h => by
    simp only [bindLo, List.zip_cons_cons, bindL]
    refine bindLo_local hx rs ?_
    by_cases q : x = p
    · subst q; simp only [Lo.put, if_true, hx]; exact r
    · by_cases k : kind p = some .local
      · simp only [Lo.put, if_neg q, if_pos k]; exact h
      · simp only [Lo.put, if_neg q, if_neg k]; exact h
theorem bindLo_cell {kind : Str → Option NameKind} {x : Str} (hx : kind x ≠ some .local) : ∀ {ps : List Str} {as : List MV} {us : List Value} {ρ : Lo} {m : Str → Option Value}, All2 MV.Is as us → OptIs (ρ x) (m x) → OptIs (bindLo ps as ρ x) (bindC kind (ps.zip us) m x)
  | [], as, us, ρ, m, _, h => by simpa [bindLo, bindC] using h
  | p :: ps, [], us, ρ, m, hh, h => by cases hh; simpa [bindLo, bindC] using h
  | p :: ps, a :: as, _, ρ, m, .cons r rs, h => by
    simp only [bindLo, List.zip_cons_cons, bindC]
    refine bindLo_cell hx rs ?_
    by_cases q : x = p
    · subst q; simp only [Lo.put, if_true, if_neg hx]; exact r
    · by_cases k : kind p = some .local
      · simp only [Lo.put, if_neg q, if_pos k]; exact h
      · simp only [Lo.put, if_neg q, if_neg k]; exact h
def MF.val : MF → MV
  | .ret v => v
  | _ => .none
theorem cellsFrom_lt : ∀ (names : List (Str × NameKind)) (n : Nat) (acc : List (Str × Nat)), (∀ p ∈ acc, p.2 < n) → (acc.map (·.2)).Nodup → ((cellsFrom n names acc).map (·.2)).Nodup
  | [], n, acc, _, h => h
  | (y, k) :: r, n, acc, ha, h => by
    unfold cellsFrom
    by_cases hk : (k == .cell) = true
    · rw [if_pos hk]
      refine cellsFrom_lt r (n + 1) ((y, n) :: acc) (fun p hp => ?_) ?_
      · rcases List.mem_cons.mp hp with rfl | hp
        · exact Nat.lt_succ_self _
        · exact Nat.lt_succ_of_lt (ha p hp)
      · simp only [List.map_cons, List.nodup_cons]
        refine ⟨fun hm => ?_, h⟩
        obtain ⟨p, hp, e⟩ := List.mem_map.mp hm
        have := ha p hp
        omega
    · rw [if_neg hk]; exact cellsFrom_lt r n acc ha h
open Classical in
noncomputable def restOf (σ : Hp) (s : Shared) : Nat → Option Obj := fun a => if Foot σ a then none else s.heap.get? a
theorem Good.frame_in {c : Cx} {n : Nat} {f : Fm} {fr : Nat → Option Obj} (g : Good c n f fr) {ρ : Lo} {σ : Hp} {z s : Shared} (R : c.Rel f ρ σ fr z s) : ∀ env ∈ f.top :: f.outer, env.scope.kind ≠ .module ∧ ∃ L o, env.frame = some L ∧ restOf σ s L = some o ∧ (∀ vs, o.data ≠ .fields vs) ∧ f.base.get? L = none := by
  intro env he
  rcases List.mem_cons.mp he with rfl | he
  · refine ⟨by rw [g.topk.1]; (intro q; cases q), ?_⟩
    obtain ⟨L, hL, h, hb⟩ := g.topL
    rcases h with rfl | ⟨hs, o, ho, hd⟩
    · obtain ⟨m, ⟨o, es, ep, h1, h2, _⟩, _⟩ := R.ns
      refine ⟨_, o, hL, ?_, fun vs e => (by rw [h2] at e; cases e), hb⟩
      unfold restOf
      rw [if_neg fun hf => (R.apart _ hf).2.1 rfl]; exact h1
    · obtain ⟨sl, h1, _⟩ := R.keep L o ho
      refine ⟨L, { o with slots := sl }, hL, ?_, hd, hb⟩
      unfold restOf
      rw [if_neg fun hf => by have := (R.apart _ hf).1; rw [ho] at this; cases this]; exact h1
  · obtain ⟨hk, L, o, hL, hs, ho, hd⟩ := g.outer env he
    obtain ⟨sl, h1, _⟩ := R.keep L o ho
    refine ⟨hk, L, { o with slots := sl }, hL, ?_, hd, g.apart L hs⟩
    unfold restOf
    rw [if_neg fun hf => by have := (R.apart _ hf).1; rw [ho] at this; cases this]; exact h1
def newFm (f : Fm) (qual : Str) (scope : Scope) (L fa : Nat) (cd : Value) : Fm where
  A := f.A.deeper (envOfC qual scope L fa cd)
  env := envOfC qual scope L fa cd
  top := envOfC qual scope L fa cd
  outer := f.top :: f.outer
  slotted := frameAddrs (f.top :: f.outer)
  base := f.base
theorem Rel.back {c : Cx} {n : Nat} {f f' : Fm} {fr : Nat → Option Obj} (g : Good c n f fr) {ρ ρ' : Lo} {σ σ' : Hp} {z s s' : Shared} (R : c.Rel f ρ σ fr z s) (hs : f'.slotted = frameAddrs (f.top :: f.outer)) (hbs : f'.base = f.base) (R' : c.Rel f' ρ' σ' (restOf σ s) z s') : c.Rel f ρ σ' fr z s' := by
  have rest : ∀ {a : Nat} {o : Obj}, ¬ Foot σ a → s.heap.get? a = some o → restOf σ s a = some o := fun h e => by unfold restOf; rw [if_neg h]; exact e
  have nf : ∀ {a : Nat} {o : Obj}, fr a = some o → ¬ Foot σ a := fun e h => by have := (R.apart _ h).1; rw [e] at this; cases this
  have nL : ¬ Foot σ f.env.locals := fun h => (R.apart _ h).2.1 rfl
  have nC : ∀ {x k}, (x, k) ∈ f.env.cells → ¬ Foot σ k := fun hk h => (R.apart _ h).2.2 _ _ hk rfl
  obtain ⟨m, ⟨oL, es, ep, h1, h2⟩, hm⟩ := R.ns
  refine ⟨R'.same, fun a o e => ?_, R'.objs, R'.wf, fun a hf => ⟨?_, ?_, fun x k hk => ?_⟩, ?_, fun x k hk => ?_, R.frame, fun a t xs o e => hbs ▸ R'.kl a t xs o e⟩
  · obtain ⟨sl, e1, e2⟩ := R.keep a o e
    obtain ⟨sl', e3, e4⟩ := R'.keep a _ (rest (nf e) e1)
    refine ⟨sl', e3, fun ha => ?_⟩
    rw [e4 fun hm => ?_, ← e2 ha]
    rw [hs] at hm
    rcases g.slots a hm with rfl | h
    · have := R.frame.1; rw [show fr f.L = fr f.env.locals from rfl, e] at this; cases this
    · exact ha h
  · cases e : fr a with
    | none => rfl
    | some o =>
      obtain ⟨sl, e1, _⟩ := R.keep a o e
      have := (R'.apart a hf).1
      rw [rest (nf e) e1] at this; cases this
  · intro q
    have := (R'.apart a hf).1
    rw [q, rest nL h1] at this; cases this
  · intro q
    obtain ⟨o, v, e1, _⟩ := R.cel x k hk
    have := (R'.apart a hf).1
    rw [q, rest (nC hk) e1] at this; cases this
  · obtain ⟨sl, e1, _⟩ := R'.keep _ _ (rest nL h1)
    exact ⟨m, ⟨_, es, ep, e1, h2⟩, hm⟩
  · obtain ⟨o, v, e1, d, r⟩ := R.cel x k hk
    obtain ⟨sl, e2, _⟩ := R'.keep _ _ (rest (nC hk) e1)
    exact ⟨_, v, e2, d, r⟩
theorem scopeOk_of {scope : Scope} {ps : List Str} (h : scopeOk scope ps = true) : scope.kind = .function ∧ scope.isCoroutine = false ∧ scope.isGenerator = false ∧ (∀ x ∈ ps, scope.names.lookup x = some .local ∨ scope.names.lookup x = some .cell) ∧
    (∀ p ∈ cellsFrom 0 scope.names [], scope.names.lookup p.1 ≠ some .local) ∧ ((cellsFrom 0 scope.names []).map (·.1)).Nodup := by
  simp only [scopeOk, Bool.and_eq_true, beq_iff_eq, Bool.not_eq_true', List.all_eq_true, Bool.or_eq_true, bne_iff_ne, ne_eq, decide_eq_true_eq] at h
  obtain ⟨⟨⟨⟨⟨a, b⟩, c⟩, d⟩, e⟩, f⟩ := h
  exact ⟨a, b, c, d, e, f⟩
structure FnAt (c : Cx) (a : Nat) (ps : List Str) (body : List Stmt) (scope : Scope) : Prop where
  at_ : ∃ oc od osl name qual params dV kV doc pm an cdv ct, c.K.lookup a = some ⟨oc, od, .func (fnX name qual params body scope [] dV kV doc pm an cdv ct), osl⟩ ∧ codeIn c.K cdv qual = true ∧
    ∀ us : List Value, us.length = ps.length → bindArgs (fnX name qual params body scope [] dV kV doc pm an cdv ct) ⟨us, []⟩ = pure (ps.zip us)
  scope : scopeOk scope ps = true
theorem newFm_good {c : Cx} {n : Nat} {f : Fm} {fr : Nat → Option Obj} (g : Good c (n + 1) f fr) {ρ : Lo} {σ : Hp} {z s : Shared} (R : c.Rel f ρ σ fr z s) {qual : Str} {scope : Scope} {fa : Nat} {cd : Value} {ps : List Str} (hs : scopeOk scope ps = true) :
    Good c n (newFm f qual scope s.heap.objs.size fa cd) (restOf σ s) := by
  obtain ⟨hk, hco, hgen, hps, hcl, hnd⟩ := scopeOk_of hs
  have nm := cellsFrom_names scope.names 0 (s.heap.objs.size + 1) [] [] rfl
  have cellk : ∀ x k, (x, k) ∈ cellsFrom (s.heap.objs.size + 1) scope.names [] → scope.names.lookup x ≠ some .local := fun x k hx => by
    have : x ∈ (cellsFrom 0 scope.names []).map (·.1) := by rw [nm]; exact List.mem_map.mpr ⟨_, hx, rfl⟩
    obtain ⟨p, hp, rfl⟩ := List.mem_map.mp this
    exact hcl p hp
  have cgt : ∀ (names : List (Str × NameKind)) (n : Nat) (acc : List (Str × Nat)) (lo : Nat), lo < n → (∀ p ∈ acc, lo < p.2) → ∀ p ∈ cellsFrom n names acc, lo < p.2 := by
    intro names
    induction names with
    | nil => intro n acc lo _ h; exact h
    | cons q r ih =>
      obtain ⟨y, k⟩ := q
      intro n acc lo hlo h
      unfold cellsFrom
      by_cases hk : (k == .cell) = true
      · rw [if_pos hk]
        refine ih (n + 1) _ lo (by omega) fun p hp => ?_
        rcases List.mem_cons.mp hp with rfl | hp
        · exact hlo
        · exact h p hp
      · rw [if_neg hk]; exact ih n acc lo hlo h
  have hfr := g.frame_in R
  exact {
    ok := g.ok
    base := fun a o e => by
      unfold restOf
      rw [if_neg fun hf => by have := (R.apart a hf).1; rw [g.base a o e] at this; cases this]
      exact g.keep R a o e
    apart := fun a ha => by
      obtain ⟨env, he, hf⟩ := List.mem_filterMap.mp ha
      obtain ⟨_, L, o, hL, _, _, hb⟩ := hfr env he
      rw [hL] at hf; cases hf; exact hb
    K := g.K
    top := g.top
    kind := hk
    globals := rfl
    celled := fun x hx => cellsFrom_some _ _ _ (.inl hx)
    cellk := cellk
    cellnd := ⟨cellsFrom_lt _ _ _ (fun _ h => nomatch h) (by simp), by show ((cellsFrom (s.heap.objs.size + 1) scope.names []).map (·.1)).Nodup; rw [← nm]; exact hnd, fun x k hx => by
      have := cgt scope.names (s.heap.objs.size + 1) [] s.heap.objs.size (by omega) (fun _ h => nomatch h) (x, k) hx
      show k ≠ s.heap.objs.size
      intro q; subst q; exact Nat.lt_irrefl _ this⟩
    builtins := rfl
    room := by
      have := g.room
      show f.A.depth + 1 + 2 * n < recursionLimit
      omega
    units := by
      have := g.units
      show f.A.units + 3 + 40 * n < cLine
      omega
    frames := by show f.A.frames.map _ = _; rw [g.frames]; rfl
    topk := ⟨hk, rfl, rfl, hgen, hco⟩
    low := g.low
    slots := fun a ha => by
      obtain ⟨env, he, hf⟩ := List.mem_filterMap.mp ha
      rcases List.mem_cons.mp he with rfl | he
      · left; cases hf; rfl
      · right; exact List.mem_filterMap.mpr ⟨env, he, hf⟩
    topL := ⟨s.heap.objs.size, rfl, .inl rfl, by
      cases e : f.base.get? s.heap.objs.size with
      | none => exact e
      | some o => exact absurd (Heap.lt_size (g.keep R _ _ e)) (Nat.lt_irrefl _)⟩
    slotIn := fun a ha => by
      obtain ⟨env, he, hf⟩ := List.mem_filterMap.mp ha
      obtain ⟨_, L, o, hL, hr, _, _⟩ := hfr env he
      rw [hL] at hf; cases hf; exact ⟨o, hr⟩
    home := rfl
    outer := fun env he => by
      obtain ⟨h1, L, o, hL, hr, hd, hb⟩ := hfr env he
      exact ⟨h1, L, o, hL, List.mem_filterMap.mpr ⟨env, he, hL⟩, hr, hd⟩ }
theorem newFm_rel {c : Cx} {n : Nat} {f : Fm} {fr : Nat → Option Obj} (g : Good c n f fr) {ρ : Lo} {σ : Hp} {z s s' : Shared} (R : c.Rel f ρ σ fr z s) {qual : Str} {scope : Scope} {fa : Nat} {cd : Value} {ps : List Str} {as : List MV} {us : List Value} (hs : scopeOk scope ps = true)
    (is : All2 MV.Is as us) (x : InCallC s s.heap.objs.size (bindL (envOfC qual scope s.heap.objs.size fa cd).kindOf (ps.zip us) fun _ => none) (cellsFrom (s.heap.objs.size + 1) scope.names []) (bindC (envOfC qual scope s.heap.objs.size fa cd).kindOf (ps.zip us) fun _ => none) s') :
    c.Rel (newFm f qual scope s.heap.objs.size fa cd) (bindLo ps as fun _ => none) σ (restOf σ s) z s' := by
  obtain ⟨hk, hco, hgen, hps, hcl, hnd⟩ := scopeOk_of hs
  obtain ⟨h₁, tk, rfl⟩ := x.toInCall.same
  have hk₁ := x.toInCall.keep
  have cell : ∀ y k, (y, k) ∈ cellsFrom (s.heap.objs.size + 1) scope.names [] → (Heap.IsCell h₁ k (bindC (envOfC qual scope s.heap.objs.size fa cd).kindOf (ps.zip us) (fun _ => none) y)) ∧ s.heap.objs.size < k := fun y k hy =>
    ⟨x.cell y k (lookup_of_mem_nodup (cellsFrom_names scope.names 0 (s.heap.objs.size + 1) [] [] rfl ▸ hnd) hy), x.above y k hy⟩
  refine ⟨R.same, fun a o e => ?_, fun a t mo e => (R.objs a t mo e).keeps hk₁, R.wf, fun a hf => ⟨?_, ?_, fun y k hy => ?_⟩, ⟨_, x.toInCall.ns, fun y hy => bindLo_local hy is trivial⟩, fun y k hy => ?_, ⟨?_, fun y k hy => ?_⟩, R.kl⟩
  · unfold restOf at e
    split at e
    · cases e
    · exact ⟨o.slots, hk₁ _ _ e, fun _ => rfl⟩
  · unfold restOf; rw [if_pos hf]
  · exact Nat.ne_of_lt (R.foot_lt hf)
  · have := (cell y k hy).2
    have h2 := R.foot_lt hf
    omega
  · obtain ⟨⟨o, ho, hd⟩, _⟩ := cell y k hy
    refine ⟨o, _, ho, hd, bindLo_cell (fun q => ?_) is trivial⟩
    have nm := cellsFrom_names scope.names 0 (s.heap.objs.size + 1) [] [] rfl
    have : y ∈ (cellsFrom 0 scope.names []).map (·.1) := by rw [nm]; exact List.mem_map.mpr ⟨_, hy, rfl⟩
    obtain ⟨p, hp, rfl⟩ := List.mem_map.mp this
    exact hcl p hp q
  · show restOf σ s s.heap.objs.size = none
    unfold restOf
    split
    · rfl
    · cases e : s.heap.get? s.heap.objs.size with
      | none => rfl
      | some o => exact absurd (Heap.lt_size e) (Nat.lt_irrefl _)
  · refine ⟨?_, fun q => ?_⟩
    · unfold restOf
      split
      · rfl
      · cases e : s.heap.get? k with
        | none => rfl
        | some o => exact absurd (Nat.lt_trans (cell y k hy).2 (Heap.lt_size e)) (Nat.lt_irrefl _)
    · have h3 := (cell y k hy).2
      rw [show k = s.heap.objs.size from q] at h3
      exact Nat.lt_irrefl _ h3
def WFn (c : Cx) (i : Ix) (a : Nat) (as : List MV) (ρ : Lo) (Q : MV → Hp → Prop) (X : EX) (σ : Hp) : Prop :=
  ∀ us, All2 MV.Is as us → ∀ f fr z s, f.env.scope = i.sc → (i.hn = true → f.A.handled = none) → Good c i.n f fr → c.Rel f ρ σ fr z s →
    codeAny c.M f.A (.call (.ref a) ⟨us, []⟩) (fun r s' => match r with
      | .ok (.ret v) => ∃ m σ', MV.Is m v ∧ c.Rel f ρ σ' fr z s' ∧ Q m σ'
      | .ok _ => False
      | .error e => XPost c f fr z (X.at ρ) e s') s
theorem WCall.of_fn {c : Cx} {i : Ix} {a : Nat} {as : List MV} {ρ : Lo} {Q : MV → Hp → Prop} {X : EX} {σ : Hp} (h : WFn c i a as ρ Q X σ) : WCall c i (.ref a) as ρ Q X σ := fun v us iv iu f fr z s hsc hh g R => by
  cases iv
  refine wpAny_call (codeAny_mono (h us iu f fr z s hsc hh g R) fun r s' q => ?_)
  rcases r with e | (_ | _ | _ | v) <;> exact q
theorem WFn.fn {c : Cx} {n : Nat} {hn : Bool} {sc : Scope} {a : Nat} {ps : List Str} {body : List Stmt} {scope : Scope} (F : FnAt c a ps body scope) {as : List MV} {ρ : Lo} {Q : MV → Hp → Prop} {X : EX} {σ : Hp} (hl : as.length = ps.length)
    (h : WSs c ⟨n, hn, scope⟩ body (bindLo ps as fun _ => none) (fun m _ σ' => Q m.val σ') noSX σ) : WFn c ⟨n + 1, hn, sc⟩ a as ρ Q X σ := fun us iu f fr z s hsc hh g R => by
  obtain ⟨⟨oc, od, osl, name, qual, params, dV, kV, doc, pm, an, cdv, ct, ho, hcd, hb⟩, hs⟩ := F
  obtain ⟨hk, hco, hgen, hps, hcl, hnd⟩ := scopeOk_of hs
  have hroom : f.A.depth < recursionLimit := by have := g.room; omega
  refine codeAny_call_function hroom (g.inK R _ _ ho) rfl hco hgen rfl (codeRec_of (g.inK R) hcd) ?_
  rw [hb us (by rw [← iu.length, hl])]
  refine wpAny_pure ?_
  refine wpAny_newFunctionEnv_cells hk (fun x hx => ?_) fun env' he s' x => ?_
  · have hx' := hps x.1 (List.of_mem_zip hx).1
    exact hx'.imp id fun q => ⟨q, cellsFrom_some _ _ _ (.inl q)⟩
  · subst he
    refine ⟨(g.at R).nolimit.keeps x.toInCall.keep, codeAny_func ?_⟩
    have G' := newFm_good g R (qual := qual) (fa := a) (cd := cdv) hs
    have R' := newFm_rel g R (qual := qual) (fa := a) (cd := cdv) hs iu x
    refine wuse6 (h (newFm f qual scope s.heap.objs.size a cdv) _ z s' rfl (fun q => hh q) G' R') (fun fl s'' m ρ' σ' is R'' q => ?_) fun e s'' ⟨_, _, _, _, _, _, _, q⟩ => q.elim
    refine ⟨m.val, σ', ?_, R.back (f' := newFm f qual scope s.heap.objs.size a cdv) g rfl rfl R'', q⟩
    cases m with
    | ret v => obtain ⟨u, rfl, is⟩ := is; exact is
    | next => cases is; rfl
    | brk => cases is; rfl
    | cont => cases is; rfl
end Mine
open PySem PySem.W PyProof.Rows
namespace Mine
def allNews (h : Heap) (L : Nat) : List (Nat × Obj) := (List.range h.objs.size).filterMap fun a => if a = L then none else (h.get? a).map fun o => (a, o)
theorem mem_allNews {h : Heap} {L a : Nat} {o : Obj} : (a, o) ∈ allNews h L ↔ a ≠ L ∧ h.get? a = some o := by
  unfold allNews
  rw [List.mem_filterMap]
  constructor
  · rintro ⟨b, _, hb⟩
    split at hb
    · cases hb
    · rename_i hne
      obtain ⟨o', ho', e⟩ := Option.map_eq_some_iff.mp hb
      cases e
      exact ⟨hne, ho'⟩
  · rintro ⟨hne, ho⟩
    exact ⟨a, List.mem_range.mpr (Heap.lt_size ho), by rw [if_neg hne, ho]; rfl⟩
theorem empty_get (a : Nat) : ({} : Heap).get? a = none := by
  cases e : ({} : Heap).get? a with
  | none => rfl
  | some o => exact absurd (Heap.lt_size e) (Nat.not_lt_zero _)
theorem news_all (h : Heap) (L : Nat) : News {} L h (allNews h L) := fun p hp => by
  obtain ⟨a, o⟩ := p
  obtain ⟨h1, h2⟩ := mem_allNews.mp hp
  exact ⟨h2, h1, empty_get a⟩
theorem fr_all {h : Heap} {L : Nat} {m : Str → Option Value} (hn : h.Ns L m) : Fr {} L h m := ⟨hn, fun b o e => (by rw [empty_get] at e; cases e), Nat.zero_le _⟩
theorem allNews_split {h : Heap} {L d : Nat} {o : Obj} (ho : h.get? d = some o) (hd : d ≠ L) : ∃ pre post, allNews h L = pre ++ (d, o) :: post ∧ (∀ p ∈ pre, p.1 ≠ d) ∧ ∀ p ∈ post, p.1 ≠ d := by
  have nd : ∀ (l : List Nat), l.Nodup → ((l.filterMap fun a => if a = L then none else (h.get? a).map fun o => (a, o)).map (·.1)).Nodup := by
    intro l
    induction l with
    | nil => intro _; simp
    | cons b r ih =>
      intro hn
      simp only [List.nodup_cons] at hn
      rw [List.filterMap_cons]
      split
      · exact ih hn.2
      · rename_i p hp
        rw [List.map_cons, List.nodup_cons]
        refine ⟨fun hm => hn.1 ?_, ih hn.2⟩
        split at hp
        · cases hp
        · obtain ⟨o', _, e⟩ := Option.map_eq_some_iff.mp hp
          cases e
          obtain ⟨q, hq, e2⟩ := List.mem_map.mp hm
          obtain ⟨b', hb', hq'⟩ := List.mem_filterMap.mp hq
          split at hq'
          · cases hq'
          · obtain ⟨o2, _, e3⟩ := Option.map_eq_some_iff.mp hq'
            cases e3
            dsimp only at e2
            subst e2
            exact hb'
  obtain ⟨pre, post, e⟩ := List.append_of_mem (mem_allNews.mpr ⟨hd, ho⟩)
  have hn := nd (List.range h.objs.size) List.nodup_range
  change ((allNews h L).map (·.1)).Nodup at hn
  rw [e, List.map_append, List.map_cons, List.nodup_append] at hn
  obtain ⟨_, h2, h3⟩ := hn
  rw [List.nodup_cons] at h2
  refine ⟨pre, post, e, fun p hp q => ?_, fun p hp q => ?_⟩
  · exact h3 p.1 (List.mem_map_of_mem hp) d (.head _) q
  · exact h2.1 (List.mem_map.mpr ⟨p, hp, q⟩)
theorem ns_unique {h : Heap} {L : Nat} {m m' : Str → Option Value} (a : h.Ns L m) (b : h.Ns L m') : m = m' := by
  obtain ⟨o, es, ep, h1, h2, _, h3⟩ := a
  obtain ⟨o', es', ep', h1', h2', _, h3'⟩ := b
  rw [h1] at h1'
  cases h1'
  rw [h2] at h2'
  cases h2'
  funext x
  rw [← h3 x, ← h3' x]
theorem Kept.of_news {L : Nat} {h h' : Heap} {m : Str → Option Value} {D : Nat → Prop} {news : List (Nat × Obj)} (hn : h.Ns L m) (F' : Fr {} L h' m) (N' : News {} L h' news) (k : ∀ p ∈ allNews h L, ¬ D p.1 → p ∈ news) : Kept L D h h' :=
  ⟨fun a o nD nL e => (N' _ (k (a, o) (mem_allNews.mpr ⟨nL, e⟩) nD)).1, fun m' hm => by rw [ns_unique hm hn]; exact F'.ns⟩
theorem fields_get {P : Params} {fs : List (Str × MV)} {es : List DictEntry} (h : FieldsAre P fs es) {x : Str} {v : MV} (hv : fs.lookup x = some v) : ∃ u, getL x es = some (some u) ∧ v.Is u := by
  unfold getL
  induction h with
  | nil => cases hv
  | @cons p e l m r _ ih =>
    obtain ⟨y, mv⟩ := p
    obtain ⟨_, ⟨t, hk⟩, is⟩ := r
    rw [List.lookup_cons] at hv
    have hk' : e.key.isStr x = (y == x) := by rw [hk]; rfl
    cases q : (x == y) with
    | true =>
      rw [q] at hv; cases hv
      rw [List.find?_cons, hk', show (y == x) = true from by rw [beq_iff_eq] at q ⊢; exact q.symm]
      exact ⟨_, rfl, is⟩
    | false =>
      rw [q] at hv
      obtain ⟨u, h1, h2⟩ := ih hv
      refine ⟨u, ?_, h2⟩
      rw [List.find?_cons, hk', show (y == x) = false from by rw [beq_eq_false_iff_ne] at q ⊢; exact fun e => q e.symm]
      split at h1
      · rename_i en he; rw [he]; exact h1
      · rename_i he
        split at h1 <;> cases h1
theorem fields_none {P : Params} {fs : List (Str × MV)} {es : List DictEntry} (h : FieldsAre P fs es) {x : Str} (hv : fs.lookup x = none) : getL x es = some none := by
  have key : es.find? (·.key.isStr x) = none ∧ es.any (·.refKey) = false := by
    induction h with
    | nil => exact ⟨rfl, rfl⟩
    | @cons p e l m r _ ih =>
      obtain ⟨y, mv⟩ := p
      obtain ⟨_, ⟨t, hk⟩, is⟩ := r
      rw [List.lookup_cons] at hv
      cases q : (x == y) with
      | true => rw [q] at hv; cases hv
      | false =>
        rw [q] at hv
        obtain ⟨h1, h2⟩ := ih hv
        refine ⟨?_, ?_⟩
        · have hk' : e.key.isStr x = (y == x) := by rw [hk]; rfl
          rw [List.find?_cons, hk', show (y == x) = false from by rw [beq_eq_false_iff_ne] at q ⊢; exact fun e => q e.symm]; exact h1
        · rw [List.any_cons, h2, Bool.or_false]
          unfold DictEntry.refKey
          rw [hk]
  unfold getL
  rw [key.1, key.2]; rfl
def putF (x : Str) (v : MV) : List (Str × MV) → List (Str × MV)
  | [] => [(x, v)]
  | (y, u) :: r => if y = x then (y, v) :: r else (y, u) :: putF x v r
theorem fields_put {P : Params} {fs : List (Str × MV)} {es : List DictEntry} (h : FieldsAre P fs es) {x : Str} {v : MV} {u : Value} {tk : Tok} (is : v.Is u) : FieldsAre P (putF x v fs) (putL x (PyData.keyHash P x) (.str x tk) u es) := by
  induction h with
  | nil => exact .cons ⟨rfl, ⟨tk, rfl⟩, is⟩ .nil
  | @cons p e l m r rs ih =>
    obtain ⟨y, mv⟩ := p
    have hk' : e.key.isStr x = (y == x) := by obtain ⟨_, ⟨t, hk⟩, _⟩ := r; rw [hk]; rfl
    unfold putF putL
    rw [hk']
    by_cases q : y = x
    · rw [if_pos q, if_pos (beq_iff_eq.mpr q)]
      exact .cons ⟨r.1, r.2.1, is⟩ rs
    · rw [if_neg q, if_neg (fun z => q (beq_iff_eq.mp z))]
      exact .cons r ih
def MV.plain : MV → Bool
  | .con _ => false
  | _ => true
theorem MV.handed {v : MV} {u : Value} (hp : v.plain = true) (is : v.Is u) : handedIn u = true := by
  cases v with
  | none => cases is; rfl
  | bool b => cases is; rfl
  | int i => obtain ⟨t, rfl⟩ := is; rfl
  | str x => obtain ⟨t, rfl⟩ := is; rfl
  | ref a => cases is; rfl
  | con c => cases hp
section
variable {c : Cx} {i : Ix} {ρ : Lo} {σ : Hp} {X : EX}
theorem Rel.inst {f : Fm} {fr : Nat → Option Obj} {z s : Shared} (R : c.Rel f ρ σ fr z s) {a t C : Nat} {fs : List (Str × MV)} (e : σ a = some (t, .inst C fs)) :
    ∃ d es n, a = d + 1 ∧ s.heap.get? a = some (instObj C d) ∧ s.heap.get? d = some (dictOf es n) ∧ FieldsAre c.w.params fs es ∧ InstAt s.heap a (instObj C d) C (some (dictOf es n)) := by
  obtain ⟨d, es, n, h1, h2, h3, h4⟩ := R.objs a t _ e
  exact ⟨d, es, n, h1, h2, h3, h4, h2, rfl, rfl, h3⟩
theorem WGet.inst {a t C name fs v} {Q : MV → Hp → Prop} (e : σ a = some (t, .inst C fs)) (hf : c.fld C name = true) (hv : fs.lookup name = some v) (hp : v.plain = true) (h : Q v σ) : WGet c i (.ref a) name ρ Q X σ := fun u iu f fr z s hsc hh g R => by
  cases iu
  obtain ⟨d, es, n, _, _, _, hfs, I⟩ := Rel.inst R e
  obtain ⟨u, hu, is⟩ := fields_get hfs hv
  obtain ⟨h1, h2, h3, _⟩ := g.ok.fld C name hf
  exact get_value (g.inK R) I (plainGet_of h1).1 (findObj_own h2 h3 rfl (by rw [lookIn_dict]; exact hu)) (MV.handed hp is) ⟨v, σ, is, R.toks _, h⟩
theorem WM.inst {a t C name fs fa} {Q : MV × List MV → Hp → Prop} (e : σ a = some (t, .inst C fs)) (hm : c.meth C name = some fa) (hv : fs.lookup name = none) (h : Q (.ref fa, [.ref a]) σ) : WM c i (.ref a) name ρ Q X σ := fun u pl iu f fr z s hsc hh g R => by
  cases iu
  obtain ⟨d, es, n, _, _, _, hfs, I⟩ := Rel.inst R e
  obtain ⟨h1, h2, h3, _⟩ := g.ok.meth C name fa hm
  refine method_fn (g.inK R) I (plainGet_of h1).1 (plainGet_of h1).2 h2 (beq_iff_eq.mp h3) ?_ ⟨(.ref fa, [.ref a]), σ, ⟨rfl, .cons rfl .nil⟩, R, h⟩
  show (lookIn name (dictOf es n)).map _ = _
  rw [lookIn_dict, fields_none hfs hv]; rfl
theorem WSet.inst {a t C name fs v} {Q : Unit → Hp → Prop} (e : σ a = some (t, .inst C fs)) (hf : c.fld C name = true) (hl : fs.length < 900) (h : Q () (σ.put a t (.inst C (putF name v fs)))) : WSet c i (.ref a) name v ρ Q X σ := fun u w iu iw f fr z s hsc hh g R => by
  cases iu
  obtain ⟨d, es, n, rfl, hx, hd, hfs, I⟩ := Rel.inst R e
  obtain ⟨h1, h2, h3, h4, h5, h6⟩ := g.ok.fld C name hf
  obtain ⟨m, hn, hm⟩ := R.ns
  have hdL : d ≠ f.env.locals := (R.apart d (.inr ⟨_, _, _, e⟩)).2.1
  obtain ⟨pre, post, ea, ha, hb⟩ := allNews_split hd hdL
  have N := news_all s.heap f.env.locals
  rw [ea] at N
  have len : ∀ (es : List DictEntry) (tk : Tok), (putL name (PyData.keyHash c.w.params name) (.str name tk) w es).length ≤ es.length + 1 := by
    intro es tk
    induction es with
    | nil => simp [putL]
    | cons e r ih =>
      unfold putL
      split
      · simp
      · simp only [List.length_cons]; omega
  have el : es.length = fs.length := (All2.length hfs).symm
  refine set_plain (g.inK R) I h4 (osa_dict (s := { s with toks := s.toks + 1 }) (fr_all hn) N (g.inK (R.toks _)) I rfl h5 h6 h2 ?_ ha hb (putName_dict _ _ _ _ _ _) rfl ?_ fun h' F' N' => ?_)
  · show (lookIn name (dictOf es n)).isSome = true
    rw [lookIn_dict]
    cases q : fs.lookup name with
    | none => rw [fields_none hfs q]; rfl
    | some v' => obtain ⟨u, hu, _⟩ := fields_get hfs q; rw [hu]; rfl
  · have := len es (s.toks + 1); show _ ≤ 1000; have h0 : ({ s with toks := s.toks + 1 } : Shared).toks = s.toks + 1 := rfl; rw [h0]; omega
  · have K' : Kept f.L (· = d) s.heap h' := Kept.of_news hn F' N' fun p hp nd => by
      rw [ea] at hp
      rcases List.mem_append.mp hp with q | q
      · exact List.mem_append_left _ q
      · rcases List.mem_cons.mp q with rfl | q
        · exact absurd rfl nd
        · exact List.mem_append_right _ (.tail _ q)
    refine ⟨(), _, rfl, R.updI e K' ⟨d, _, _, rfl, ?_, (N' (d, _) (List.mem_append_right _ (.head _))).1, fields_put hfs iw⟩, h⟩
    exact K'.1 _ _ (by show ¬ (d + 1 = d); omega) (R.neL e) hx
end
end Mine
open PySem PySem.W PyProof.Rows
namespace Mine
theorem All2.one {α β : Type} {R : α → β → Prop} {a : α} {us : List β} (h : All2 R [a] us) : ∃ u, us = [u] ∧ R a u := by
  cases h with | cons r h => cases h; exact ⟨_, rfl, r⟩
theorem All2.two {α β : Type} {R : α → β → Prop} {a b : α} {us : List β} (h : All2 R [a, b] us) : ∃ u v, us = [u, v] ∧ R a u ∧ R b v := by
  cases h with | cons r h => obtain ⟨v, rfl, r'⟩ := h.one; exact ⟨_, _, rfl, r, r'⟩
section
variable {c : Cx} {i : Ix} {ρ : Lo} {σ : Hp} {X : EX}
-- truth
theorem WTr.bool {b} {Q : Bool → Hp → Prop} (h : Q b σ) : WTr c i (.bool b) ρ Q X σ := fun v is f fr z s _ _ g R => by cases is; dsimp only; (with_reducible refine wpAny_truthy_bool ?_); exact ⟨_, σ, rfl, R, h⟩
theorem WU.not {m} {Q : MV → Hp → Prop} (h : WTr c i m ρ (fun k σ₁ => Q (.bool (!k)) σ₁) X σ) : WU c i .Not m ρ Q X σ := fun v is f fr z s a b g R =>
  not_of (wuse (h v is f fr z s a b g R) (fun k s' k' σ' e R' q => by subst e; exact ⟨.bool _, σ', rfl, R', q⟩) fun _ _ x => x)
theorem WU.neg {n} {Q : MV → Hp → Prop} (h : Q (.int (-n)) σ) : WU c i .USub (.int n) ρ Q X σ := fun v is f fr z s a b g R => by
  obtain ⟨t, rfl⟩ := is; dsimp only; (with_reducible refine neg_int ?_); exact ⟨.int (-n), σ, ⟨_, rfl⟩, R.toks _, h⟩
-- ints
theorem WB.add {m n} {Q : MV → Hp → Prop} (h : Q (.int (m + n)) σ) : WB c i .Add (.int m) (.int n) ρ Q X σ := fun v u iv iu f fr z s _ _ g R => by
  obtain ⟨t, rfl⟩ := iv; obtain ⟨t', rfl⟩ := iu; dsimp only; (with_reducible refine add_int ?_); exact ⟨.int (m + n), σ, ⟨_, rfl⟩, R.toks _, h⟩
theorem WI.add {m n} {Q : MV → Hp → Prop} (h : Q (.int (m + n)) σ) : WI c i .Add (.int m) (.int n) ρ Q X σ := fun v u iv iu f fr z s _ _ g R => by
  obtain ⟨t, rfl⟩ := iv; obtain ⟨t', rfl⟩ := iu; dsimp only; (with_reducible refine iadd_int ?_); exact ⟨.int (m + n), σ, ⟨_, rfl⟩, R.toks _, h⟩
theorem WB.sub {m n} {Q : MV → Hp → Prop} (h : Q (.int (m - n)) σ) : WB c i .Sub (.int m) (.int n) ρ Q X σ := fun v u iv iu f fr z s _ _ g R => by
  obtain ⟨t, rfl⟩ := iv; obtain ⟨t', rfl⟩ := iu; dsimp only; (with_reducible refine sub_int ?_); exact ⟨.int (m - n), σ, ⟨_, rfl⟩, R.toks _, h⟩
theorem WB.mul {m n} {Q : MV → Hp → Prop} (hm : IntMulOk m n) (h : Q (.int (m * n)) σ) : WB c i .Mult (.int m) (.int n) ρ Q X σ := fun v u iv iu f fr z s _ _ g R => by
  obtain ⟨t, rfl⟩ := iv; obtain ⟨t', rfl⟩ := iu; exact mul_int ⟨.int (m * n), σ, ⟨_, rfl⟩, R.toks _, h⟩ hm
theorem WB.div {m n} {Q : MV → Hp → Prop} (h0 : n ≠ 0) (h1 : n.natAbs < 1073741824) (h : Q (.int (m.fdiv n)) σ) : WB c i .FloorDiv (.int m) (.int n) ρ Q X σ := fun v u iv iu f fr z s _ _ g R => by
  obtain ⟨t, rfl⟩ := iv; obtain ⟨t', rfl⟩ := iu; exact floordiv_int h0 ⟨.int (m.fdiv n), σ, ⟨_, rfl⟩, R.toks _, h⟩ (.inl (PyProof.noPylong_small h1))
theorem WB.mod {m n} {Q : MV → Hp → Prop} (h0 : n ≠ 0) (h : Q (.int (m.fmod n)) σ) : WB c i .Mod (.int m) (.int n) ρ Q X σ := fun v u iv iu f fr z s _ _ g R => by
  obtain ⟨t, rfl⟩ := iv; obtain ⟨t', rfl⟩ := iu; exact PyProof.Rows.mod_int h0 ⟨.int (m.fmod n), σ, ⟨_, rfl⟩, R.toks _, h⟩
theorem WC.lt {m n} {Q : MV → Hp → Prop} (h : Q (.bool (decide (m < n))) σ) : WC c i .Lt (.int m) (.int n) ρ Q X σ := fun v u iv iu f fr z s _ _ g R => by
  obtain ⟨t, rfl⟩ := iv; obtain ⟨t', rfl⟩ := iu; dsimp only; (with_reducible refine lt_int ?_); exact ⟨.bool _, σ, rfl, R, h⟩
theorem WC.le {m n} {Q : MV → Hp → Prop} (h : Q (.bool (decide (m ≤ n))) σ) : WC c i .LtE (.int m) (.int n) ρ Q X σ := fun v u iv iu f fr z s _ _ g R => by
  obtain ⟨t, rfl⟩ := iv; obtain ⟨t', rfl⟩ := iu; dsimp only; (with_reducible refine PyProof.Rows.le_int ?_); exact ⟨.bool _, σ, rfl, R, h⟩
theorem WC.gt {m n} {Q : MV → Hp → Prop} (h : Q (.bool (decide (n < m))) σ) : WC c i .Gt (.int m) (.int n) ρ Q X σ := fun v u iv iu f fr z s _ _ g R => by
  obtain ⟨t, rfl⟩ := iv; obtain ⟨t', rfl⟩ := iu; dsimp only; (with_reducible refine PyProof.Rows.gt_int ?_); exact ⟨.bool _, σ, rfl, R, h⟩
theorem WC.eqI {m n} {Q : MV → Hp → Prop} (h : Q (.bool (m == n)) σ) : WC c i .Eq (.int m) (.int n) ρ Q X σ := fun v u iv iu f fr z s _ _ g R => by
  obtain ⟨t, rfl⟩ := iv; obtain ⟨t', rfl⟩ := iu; dsimp only; (with_reducible refine PyProof.Rows.eq_int ?_); exact ⟨.bool _, σ, rfl, R, h⟩
theorem WC.neI {m n} {Q : MV → Hp → Prop} (h : Q (.bool (m != n)) σ) : WC c i .NotEq (.int m) (.int n) ρ Q X σ := fun v u iv iu f fr z s _ _ g R => by
  obtain ⟨t, rfl⟩ := iv; obtain ⟨t', rfl⟩ := iu; dsimp only; (with_reducible refine PyProof.Rows.ne_int ?_); exact ⟨.bool _, σ, rfl, R, h⟩
theorem WC.eqS {x y} {Q : MV → Hp → Prop} (h : Q (.bool (x == y)) σ) : WC c i .Eq (.str x) (.str y) ρ Q X σ := fun v u iv iu f fr z s _ _ g R => by
  obtain ⟨t, rfl⟩ := iv; obtain ⟨t', rfl⟩ := iu; dsimp only; (with_reducible refine PyProof.Rows.eq_str ?_); exact ⟨.bool _, σ, rfl, R, h⟩
theorem WC.neS {x y} {Q : MV → Hp → Prop} (h : Q (.bool (x != y)) σ) : WC c i .NotEq (.str x) (.str y) ρ Q X σ := fun v u iv iu f fr z s _ _ g R => by
  obtain ⟨t, rfl⟩ := iv; obtain ⟨t', rfl⟩ := iu; dsimp only; (with_reducible refine PyProof.Rows.ne_str ?_); exact ⟨.bool _, σ, rfl, R, h⟩
theorem WC.neB {x y} {Q : MV → Hp → Prop} (h : Q (.bool (x != y)) σ) : WC c i .NotEq (.bool x) (.bool y) ρ Q X σ := fun v u iv iu f fr z s _ _ g R => by
  cases iv; cases iu; dsimp only; (with_reducible refine PyProof.Rows.ne_bool ?_); exact ⟨.bool _, σ, rfl, R, h⟩
def MV.isNone : MV → Bool
  | .none => true
  | _ => false
theorem isNone_of {m : MV} {v : Value} (hc : ∀ k, m ≠ .con k) (is : m.Is v) : (v == .none) = m.isNone := by
  cases m with
  | none => cases is; rfl
  | bool b => cases is; rfl
  | int n => obtain ⟨t, rfl⟩ := is; rfl
  | str x => obtain ⟨t, rfl⟩ := is; rfl
  | ref a => cases is; rfl
  | con k => exact absurd rfl (hc k)
theorem WC.isNone {m} {Q : MV → Hp → Prop} (hp : m.plain = true) (h : Q (.bool m.isNone) σ) : WC c i .Is m .none ρ Q X σ := fun v u iv iu f fr z s _ _ g R => by
  cases iu; refine is_none_gen ⟨.bool m.isNone, σ, ?_, R, h⟩; rw [isNone_of (by intro k e; subst e; cases hp) iv]; rfl
theorem WB.addS {x y} {Q : MV → Hp → Prop} (hl : x.length + y.length ≤ sizeLine) (h : Q (.str (x ++ y)) σ) : WB c i .Add (.str x) (.str y) ρ Q X σ := fun v u iv iu f fr z s _ _ g R => by
  obtain ⟨t, rfl⟩ := iv; obtain ⟨t', rfl⟩ := iu; exact PyProof.Rows.add_str (fun t'' tk => ⟨.str (x ++ y), σ, ⟨_, rfl⟩, R.toks _, h⟩) hl
-- what a thing is
inductive KindOf (σ : Hp) : MV → Value → Prop
  | none : KindOf σ .none (.type "NoneType")
  | bool {b} : KindOf σ (.bool b) (.type "bool")
  | int {n} : KindOf σ (.int n) (.type "int")
  | str {x} : KindOf σ (.str x) (.type "str")
  | list {a t xs} : σ a = some (t, .list xs) → KindOf σ (.ref a) (.type "list")
  | tuple {a t xs} : σ a = some (t, .tuple xs) → KindOf σ (.ref a) (.type "tuple")
theorem WCall.isinstance {m t cv b} {Q : MV → Hp → Prop} (k : KindOf σ m t) (e : kitOne c.K t cv = some b) (h : Q (.bool b) σ) : WCall c i (.con (.builtin "isinstance")) [m, .con cv] ρ Q X σ := fun v us iv iu f fr z s _ _ g R => by
  cases iv
  obtain ⟨u1, u2, rfl, i1, i2⟩ := iu.two
  cases i2
  have fin : ∀ tk, (fun (a : Value) s' => ∃ m σ', MV.Is m a ∧ c.Rel f ρ σ' fr z s' ∧ Q m σ') (.bool b) { s with toks := tk } := fun tk => ⟨.bool b, σ, rfl, R.toks _, h⟩
  cases k with
  | none => cases i1; exact kia_one kitx_none (g.inK R) trivial e (by intro q; cases q) fin
  | bool => cases i1; exact kia_one kitx_bool (g.inK R) trivial e (by intro q; cases q) fin
  | int => obtain ⟨t, rfl⟩ := i1; exact kia_one kitx_int (g.inK R) trivial e (by intro q; cases q) fin
  | str => obtain ⟨t, rfl⟩ := i1; exact kia_one kitx_str (g.inK R) trivial e (by intro q; cases q) fin
  | list he => cases i1; obtain ⟨its, n, ho, _⟩ := R.objs _ _ _ he; exact kia_one kitx_list (g.inK R) ⟨_, ho, rfl⟩ e (by intro q; cases q) fin
  | tuple he => cases i1; obtain ⟨its, n, ho, _⟩ := R.objs _ _ _ he; exact kia_one kitx_tuple (g.inK R) ⟨_, ho, rfl⟩ e (by intro q; cases q) fin
end
end Mine
open PySem PySem.W PyProof.Rows
namespace Mine
def Fresh (σ : Hp) (b : Nat) : Prop := ∀ a p, σ a = some p → a < b
theorem Rel.withA {c : Cx} {f : Fm} {A' : Around} {ρ : Lo} {σ : Hp} {fr : Nat → Option Obj} {z s : Shared} (R : c.Rel f ρ σ fr z s) : c.Rel { f with A := A' } ρ σ fr z s := ⟨R.same, R.keep, R.objs, R.wf, R.apart, R.ns, R.cel, R.frame, R.kl⟩
theorem Rel.ofA {c : Cx} {f : Fm} {A' : Around} {ρ : Lo} {σ : Hp} {fr : Nat → Option Obj} {z s : Shared} (R : c.Rel { f with A := A' } ρ σ fr z s) : c.Rel f ρ σ fr z s := ⟨R.same, R.keep, R.objs, R.wf, R.apart, R.ns, R.cel, R.frame, R.kl⟩
theorem XPost.ofA {c : Cx} {f : Fm} {A' : Around} {fr : Nat → Option Obj} {z : Shared} {X : SX} {v : Value} {s : Shared} (h : XPost c { f with A := A' } fr z X v s) : XPost c f fr z X v s := by
  obtain ⟨b, C, e, ρ', σ', h1, h2, h3⟩ := h
  refine ⟨b, C, e, ρ', σ', h1, ?_, h3⟩
  cases b with
  | true => obtain ⟨h, vs, r, q⟩ := h2; exact ⟨h, vs, r.ofA, q⟩
  | false => obtain ⟨h, t, vs, r, q⟩ := h2; exact ⟨h, t, vs, r.ofA, q⟩
section
variable {c : Cx} {n : Nat} {hn : Bool} {sc : Scope} {ρ : Lo} {σ : Hp} {X : EX}
theorem WFn.make {C fI : Nat} {as : List MV} {Q : MV → Hp → Prop} (t : Nat) (hi : c.init C = some fI)
    (h : ∀ b, Fresh σ b → σ b = none → WFn c ⟨n, hn, sc⟩ fI (.ref b :: as) ρ (fun r σ' => r = .none ∧ Q (.ref b) σ') X (σ.put b t (.inst C []))) : WFn c ⟨n + 1, hn, sc⟩ C as ρ Q X σ := fun us iu f fr z s hsc hh g R => by
  obtain ⟨h1, h2, h3, h4⟩ := g.ok.init C fI hi
  obtain ⟨hp, gens, d, tk, os⟩ := s
  refine make_core (makes_of (g.inK R) h1) (looks_findIn (g.inK R) h2) (fun self => bind_fn (g.inK R) self (beq_iff_eq.mp h3)) (.inl rfl) ?_
  have k : ∀ b o, hp.get? b = some o → ((hp.push emptyDict).push (instObj C hp.objs.size)).get? b = some o := fun b o e => Heap.get?_push_of_some _ (Heap.get?_push_of_some _ e)
  have hx : ((hp.push emptyDict).push (instObj C hp.objs.size)).get? (hp.objs.size + 1) = some (instObj C hp.objs.size) := by heap_get
  have hd : ((hp.push emptyDict).push (instObj C hp.objs.size)).get? hp.objs.size = some emptyDict := by heap_get
  have fresh : Fresh σ (hp.objs.size + 1) := fun a p e => Nat.lt_succ_of_lt (R.some_lt e)
  have R₁ : c.Rel f ρ (σ.put (hp.objs.size + 1) t (.inst C [])) fr z ⟨(hp.push emptyDict).push (instObj C hp.objs.size), gens, d, tk, os⟩ :=
    R.alloc (tk := tk) t (.of_grown k) (Nat.le_succ _) (fun _ => Nat.lt_succ_self _) ⟨hp.objs.size, [], 0, rfl, hx, hd, .nil⟩
  have G₁ : Good c n { f with A := f.A.under (.builtin "type.__call__" ⟨.ref C :: us, []⟩) } fr := by
    exact {
      ok := g.ok, base := g.base, apart := g.apart, K := g.K, top := g.top, kind := g.kind, globals := g.globals, celled := g.celled, cellk := g.cellk, cellnd := g.cellnd, builtins := g.builtins
      room := by have := g.room; show f.A.depth + 1 + 2 * n < recursionLimit; dsimp only at this; omega
      units := by have := g.units; show f.A.units + 1 + 40 * n < cLine; dsimp only at this; omega
      frames := g.frames, topk := g.topk, low := g.low, slots := g.slots, topL := g.topL, slotIn := g.slotIn, home := g.home, outer := g.outer }
  have key := h (hp.objs.size + 1) fresh (by
    cases e : σ (hp.objs.size + 1) with
    | none => rfl
    | some p => exact absurd (R.some_lt e) (by show ¬ (hp.objs.size + 1 < hp.objs.size); omega)) (.ref (hp.objs.size + 1) :: us) (.cons rfl iu) { f with A := f.A.under (.builtin "type.__call__" ⟨.ref C :: us, []⟩) } fr z _ hsc hh G₁ R₁.withA
  refine codeAny_mono key fun r s' q => ?_
  rcases r with e | (_ | _ | _ | v)
  · exact XPost.ofA q
  · exact q
  · exact q
  · exact q
  · obtain ⟨m, σ', is, R', rfl, hq⟩ := q
    cases is
    exact ⟨rfl, .ref (hp.objs.size + 1), σ', rfl, R'.ofA, hq⟩
end
end Mine
open PySem PySem.W PyProof.Rows
namespace Mine
section
variable {κ : Type} [DecidableEq κ]
def getK (es : List (κ × MV)) (k : κ) : Option MV := (es.find? fun p => decide (p.1 = k)).map (·.2)
def putK (es : List (κ × MV)) (k : κ) (v : MV) : List (κ × MV) := if es.any (fun p => decide (p.1 = k)) then es.map (fun p => if p.1 = k then (p.1, v) else p) else es ++ [(k, v)]
def delK (es : List (κ × MV)) (k : κ) : List (κ × MV) := es.filter fun p => decide (p.1 ≠ k)
abbrev PR (p : κ × MV) (q : κ × Value) : Prop := p.1 = q.1 ∧ p.2.Is q.2
theorem getK_some {es : List (κ × MV)} {kvs : List (κ × Value)} (h : All2 PR es kvs) {k : κ} {v : MV} (e : getK es k = some v) : ∃ u, valueAt kvs k = some u ∧ v.Is u := by
  unfold getK at e
  unfold valueAt
  induction h with
  | nil => cases e
  | @cons p q l m r _ ih =>
    rw [List.find?_cons] at e ⊢
    rw [← r.1]
    by_cases hk : p.1 = k
    · rw [decide_eq_true hk] at e ⊢; cases e; exact ⟨_, rfl, r.2⟩
    · rw [decide_eq_false hk] at e ⊢; exact ih e
theorem getK_none {es : List (κ × MV)} {kvs : List (κ × Value)} (h : All2 PR es kvs) {k : κ} (e : getK es k = none) : valueAt kvs k = none := by
  unfold getK at e
  unfold valueAt
  induction h with
  | nil => rfl
  | @cons p q l m r _ ih =>
    rw [List.find?_cons] at e ⊢
    rw [← r.1]
    by_cases hk : p.1 = k
    · rw [decide_eq_true hk] at e; cases e
    · rw [decide_eq_false hk] at e ⊢; exact ih e
theorem getK_isSome {es : List (κ × MV)} {kvs : List (κ × Value)} (h : All2 PR es kvs) (k : κ) : (valueAt kvs k).isSome = (getK es k).isSome := by
  cases e : getK es k with
  | none => rw [getK_none h e]; rfl
  | some v => obtain ⟨u, hu, _⟩ := getK_some h e; rw [hu]; rfl
theorem putK_all {es : List (κ × MV)} {kvs : List (κ × Value)} (h : All2 PR es kvs) {k : κ} {v : MV} {u : Value} (is : v.Is u) : All2 PR (putK es k v) (stored kvs k u) := by
  have an : es.any (fun p => decide (p.1 = k)) = kvs.any (fun p => decide (p.1 = k)) := by
    induction h with
    | nil => rfl
    | cons r _ ih => rw [List.any_cons, List.any_cons, ih, r.1]
  unfold putK stored
  rw [an]
  split
  · rename_i hh
    clear an hh
    induction h with
    | nil => exact .nil
    | @cons p q l m r _ ih =>
      rw [List.map_cons, List.map_cons]
      refine .cons ?_ ih
      rw [← r.1]
      by_cases hk : p.1 = k
      · rw [if_pos hk, if_pos hk]; exact ⟨rfl, is⟩
      · rw [if_neg hk, if_neg hk]; exact r
  · exact h.append (.cons ⟨rfl, is⟩ .nil)
theorem delK_all {es : List (κ × MV)} {kvs : List (κ × Value)} (h : All2 PR es kvs) (k : κ) : All2 PR (delK es k) (without kvs k) := by
  unfold delK without
  induction h with
  | nil => exact .nil
  | @cons p q l m r _ ih =>
    rw [List.filter_cons, List.filter_cons, ← r.1]
    split
    · exact .cons r ih
    · exact ih
end
abbrev NoSlice (sl : Expr) : Prop := ∀ o i, subscripted sl false o i = operate [o, i] (getItem o i)
def ListAt (σ : Hp) (a : Nat) (xs : List MV) : Prop := ∃ t, σ a = some (t, .list xs) ∨ ∃ o, σ a = some (t, .klist xs o)
theorem ListAt.own {σ : Hp} {a t : Nat} {xs : List MV} (h : σ a = some (t, .list xs)) : ListAt σ a xs := ⟨t, .inl h⟩
section
variable {c : Cx} {i : Ix} {ρ : Lo} {σ : Hp} {X : EX}
theorem Rel.isList {f : Fm} {fr : Nat → Option Obj} {z s : Shared} (R : c.Rel f ρ σ fr z s) {a : Nat} {xs : List MV} (h : ListAt σ a xs) : ∃ its, s.heap.IsList a its ∧ All2 MV.Is xs its.toList := by
  obtain ⟨t, h | ⟨o, h⟩⟩ := h
  · obtain ⟨its, n, ho, r⟩ := R.objs _ _ _ h; exact ⟨its, ⟨_, ho, rfl, n, rfl⟩, r⟩
  · obtain ⟨ho, hc, its, n, hd, r⟩ := R.objs _ _ _ h; exact ⟨its, ⟨_, ho, hc, n, hd⟩, r⟩
theorem Rel.fresh {f : Fm} {fr : Nat → Option Obj} {z s : Shared} (R : c.Rel f ρ σ fr z s) : Fresh σ s.heap.objs.size := fun a p e => R.some_lt e
theorem Fresh.none {σ : Hp} {b : Nat} (h : Fresh σ b) : σ b = Option.none := by
  cases e : σ b with
  | none => rfl
  | some p => exact absurd (h b p e) (Nat.lt_irrefl _)
theorem grows (h : Heap) (o : Obj) : ∀ a o', h.get? a = some o' → (h.push o).get? a = some o' := fun a o' e => Heap.get?_push_of_some _ e
theorem size_ok {n : Nat} (h : n ≤ 1000000) : n ≤ sizeLine := by rw [sizeLine_eq]; omega
theorem WE.list {es pos} {Q : MV → Hp → Prop} (t : Nat) (h : WEs c i pos es ρ (fun vs σ₁ => vs.length ≤ 1000000 ∧ ∀ b, Fresh σ₁ b → Q (.ref b) (σ₁.put b t (.list vs))) X σ) : WE c i (.List es pos) ρ Q X σ := fun f fr z s a b g R =>
  List_ (wpAny_mono (h f fr z s a b g R) (fun us s₁ ⟨vs, σ₁, is, R₁, hl, h₁⟩ => wpAny_newList (by
    refine ⟨.ref s₁.heap.objs.size, _, rfl, R₁.alloc (mo := .list vs) (tk := s₁.toks) t (.of_grown (grows _ _)) (Nat.le_refl _) (fun q => by cases q) ⟨us.toArray, 0, Heap.get?_push_size _ rfl, by simpa using is⟩, h₁ _ R₁.fresh⟩) (size_ok (by rw [← is.length]; exact hl))) fun _ _ x => x)
theorem WE.tuple {es k pos} {Q : MV → Hp → Prop} (t : Nat) (h : WEs c i pos es ρ (fun vs σ₁ => vs.length ≤ 1000000 ∧ ∀ b, Fresh σ₁ b → Q (.ref b) (σ₁.put b t (.tuple vs))) X σ) : WE c i (.Tuple es k pos) ρ Q X σ := fun f fr z s a b g R =>
  Tuple_ (wpAny_mono (h f fr z s a b g R) (fun us s₁ ⟨vs, σ₁, is, R₁, hl, h₁⟩ => wpAny_newTuple (by
    refine ⟨.ref s₁.heap.objs.size, _, rfl, R₁.alloc (mo := .tuple vs) (tk := s₁.toks) t (.of_grown (grows _ _)) (Nat.le_refl _) (fun q => by cases q) ⟨us.toArray, 0, Heap.get?_push_size _ rfl, by simpa using is⟩, h₁ _ R₁.fresh⟩) (size_ok (by rw [← is.length]; exact hl))) fun _ _ x => x)
theorem Good.modules {n : Nat} {f : Fm} {fr : Nat → Option Obj} (g : Good c n f fr) {z s : Shared} (R : c.Rel f ρ σ fr z s) {b : Nat} (h : s.heap.objs.size ≤ b) : (b == sysModules) = false := by
  have h1 := modules_low (g.at R).nolimit
  rw [beq_eq_false_iff_ne]
  intro q
  rw [q] at h
  exact absurd (Nat.lt_of_lt_of_le h1 h) (Nat.lt_irrefl _)
theorem keyIs_new {κ : Type} [DecidableEq κ] (knd : KeyKind c.prog c.w κ) (h : Heap) : KeyIs knd ({ cls := .type "dict", data := .dict #[] } : Obj) ([] : List (κ × MV)) := by
  obtain ⟨o, ho, hd⟩ := Heap.dictOf_iff.mp (Heap.DictOf.new (knd := knd) h)
  rw [Heap.get?_push_size _ rfl] at ho
  exact ⟨[], (Option.some.inj ho) ▸ hd, .nil⟩
theorem WE.sdict {pos} {Q : MV → Hp → Prop} (t : Nat) (h : ∀ b, Fresh σ b → Q (.ref b) (σ.put b t (.sdict []))) : WE c i (.Dict [] [] pos) ρ Q X σ := fun f fr z s a b g R =>
  wpAny_Dict_empty ⟨.ref s.heap.objs.size, _, rfl, R.alloc (mo := .sdict []) (tk := s.toks) t (.of_grown (grows _ _)) (Nat.le_refl _) (fun q => by cases q) ⟨g.modules R (Nat.le_refl _), _, Heap.get?_push_size _ rfl, keyIs_new _ s.heap⟩, h _ R.fresh⟩
theorem WSub.list {value slice a k xs v} {Q : MV → Hp → Prop} (hs : NoSlice slice) (hl : ListAt σ a xs) (h0 : 0 ≤ k) (h1 : k < 2 ^ 63) (hx : xs[k.toNat]? = some v) (h : Q v σ) : WSub c i value slice (.ref a) (.int k) ρ Q X σ := fun v' u iv iu f fr z s _ _ g R => by
  cases iv; obtain ⟨t, rfl⟩ := iu
  obtain ⟨its, hi, r⟩ := R.isList hl
  obtain ⟨x, hx', is⟩ := r.get hx
  exact tail_any hi.typeIs slot_list_getitem.lookup (wpAny_getItem_list hi h0 h1 (by simpa using hx') ⟨v, σ, is, R, h⟩) (hs _ _)
theorem WCall.lenList {a xs} {Q : MV → Hp → Prop} (hl : ListAt σ a xs) (hz : xs.length ≤ 1000000) (h : Q (.int xs.length) σ) : WCall c i (.con (.builtin "len")) [.ref a] ρ Q X σ := fun v us iv iu f fr z s _ _ g R => by
  cases iv
  obtain ⟨u, rfl, i1⟩ := iu.one
  cases i1
  obtain ⟨its, hi, r⟩ := R.isList hl
  have e : its.size = xs.length := by rw [r.length]; simp
  refine Calls.call_len_list hi (by rw [e]; omega) ⟨.int xs.length, σ, ⟨_, by rw [e]⟩, R.toks _, h⟩
-- changing a list
theorem WPut.list {a t : Nat} {k : Int} {xs : List MV} {v : MV} {Q : Unit → Hp → Prop} (hl : σ a = some (t, .list xs)) (h0 : 0 ≤ k) (h1 : k < xs.length) (hz : xs.length ≤ 1000000) (h : Q () (σ.put a t (.list (xs.set k.toNat v)))) : WPut c i (.ref a) (.int k) v ρ Q X σ := fun v' y u iv iy iu f fr z s _ _ g R => by
  cases iv; obtain ⟨tk, rfl⟩ := iy
  obtain ⟨its, n, ho, r⟩ := R.objs _ _ _ hl
  have e : its.size = xs.length := by rw [r.length]; simp
  refine ki_setAt ho h0 (by omega) (by rw [e]; exact h1) ⟨(), _, rfl, R.upd (t' := t) (mo' := .list (xs.set k.toNat v)) (tk := s.toks) hl rfl rfl (.of_same (Heap.SameBut.update ..) (R.neL hl)) ⟨its.setIfInBounds k.toNat u, _, PySem.IsL.update ho _, ?_⟩, h⟩
  rw [Array.toList_setIfInBounds]
  exact r.set iu _
theorem WM.listAppend {a t xs} {Q : MV × List MV → Hp → Prop} (hl : σ a = some (t, .list xs)) (h : Q (.con (.builtin "list.append"), [.ref a]) σ) : WM c i (.ref a) "append" ρ Q X σ := fun v pl iv f fr z s _ _ g R => by
  cases iv
  obtain ⟨its, n, ho, r⟩ := R.objs _ _ _ hl
  exact getMethod_builtin (T := "list") ⟨_, ho, rfl⟩ PySem.F.plainAttrs_list PySem.F.slot_list_append PySem.F.type_list_append (fun b e => by cases e; exact ⟨_, ho, rfl⟩) ⟨(.con (.builtin "list.append"), [.ref a]), σ, ⟨rfl, .cons rfl .nil⟩, R, h⟩
theorem WCall.append {a t : Nat} {xs : List MV} {v : MV} {Q : MV → Hp → Prop} (hl : σ a = some (t, .list xs)) (hz : xs.length ≤ 1000000) (h : Q .none (σ.put a t (.list (xs ++ [v])))) : WCall c i (.con (.builtin "list.append")) [.ref a, v] ρ Q X σ := fun v' us iv iu f fr z s _ _ g R => by
  cases iv
  obtain ⟨u1, u2, rfl, i1, i2⟩ := iu.two
  cases i1
  obtain ⟨its, n, ho, r⟩ := R.objs _ _ _ hl
  have e : its.size = xs.length := by rw [r.length]; simp
  refine append_at ho (fun h' hs ho' => ⟨.none, _, rfl, R.upd (t' := t) (mo' := .list (xs ++ [v])) (tk := s.toks) hl rfl rfl (.of_same hs (R.neL hl)) ⟨_, _, ho', ?_⟩, h⟩) (size_ok (by rw [e]; exact hz))
  rw [Array.toList_push]
  exact r.append (.cons i2 .nil)
-- dicts by texts
theorem Rel.sdict {f : Fm} {fr : Nat → Option Obj} {z s : Shared} (R : c.Rel f ρ σ fr z s) {a t : Nat} {es : List (Str × MV)} (h : σ a = some (t, .sdict es)) : (a == sysModules) = false ∧ ∃ kvs, s.heap.DictOf (PySem.strKind c.prog c.w) a kvs ∧ All2 PR es kvs := by
  obtain ⟨l, o, ho, kvs, hd, r⟩ := R.objs _ _ _ h
  exact ⟨l, kvs, Heap.dictOf_iff.mpr ⟨o, ho, hd⟩, r⟩
theorem Rel.idict {f : Fm} {fr : Nat → Option Obj} {z s : Shared} (R : c.Rel f ρ σ fr z s) {a t ep : Nat} {es : List (Int × MV)} (h : σ a = some (t, .idict es ep)) : (a == sysModules) = false ∧ ∃ kvs, s.heap.DictOf (PySem.intKind c.prog c.w) a kvs ∧ s.heap.DictAt (PySem.intKind c.prog c.w) a kvs ep ∧ All2 PR es kvs := by
  obtain ⟨l, o, ho, ⟨kvs, hd, r⟩, q, hq⟩ := R.objs _ _ _ h
  have hk := Heap.dictOf_iff.mpr ⟨o, ho, hd⟩
  refine ⟨l, kvs, hk, ?_, r⟩
  obtain ⟨ep', o', es', h1, h2, h3, h4⟩ := hk.dictAt
  obtain rfl : o = o' := Option.some.inj (ho.symm.trans h1)
  rw [hq] at h3
  cases h3
  exact ⟨o, q, ho, h2, hq, h4⟩
theorem WC.inS {a t es k} {Q : MV → Hp → Prop} (hd : σ a = some (t, .sdict es)) (h : Q (.bool (getK es k).isSome) σ) : WC c i .In (.str k) (.ref a) ρ Q X σ := fun v u iv iu f fr z s _ _ g R => by
  obtain ⟨tk, rfl⟩ := iv; cases iu
  obtain ⟨l, kvs, hk, r⟩ := Rel.sdict R hd
  refine wpAny_in_of (PySem.strKind_is _ _ k tk) l hk.mapOf ⟨.bool _, σ, rfl, R.toks _, ?_⟩
  rw [getK_isSome r]; exact h
theorem WC.notInS {a t es k} {Q : MV → Hp → Prop} (hd : σ a = some (t, .sdict es)) (h : Q (.bool (!(getK es k).isSome)) σ) : WC c i .NotIn (.str k) (.ref a) ρ Q X σ := fun v u iv iu f fr z s _ _ g R => by
  obtain ⟨tk, rfl⟩ := iv; cases iu
  obtain ⟨l, kvs, hk, r⟩ := Rel.sdict R hd
  refine wpAny_notIn_of (PySem.strKind_is _ _ k tk) l hk.mapOf ⟨.bool _, σ, rfl, R.toks _, ?_⟩
  rw [getK_isSome r]; exact h
theorem WSub.sdict {value slice a t es k v} {Q : MV → Hp → Prop} (hs : NoSlice slice) (hd : σ a = some (t, .sdict es)) (hv : getK es k = some v) (h : Q v σ) : WSub c i value slice (.ref a) (.str k) ρ Q X σ := fun v' u iv iu f fr z s _ _ g R => by
  cases iv; obtain ⟨tk, rfl⟩ := iu
  obtain ⟨l, kvs, hk, r⟩ := Rel.sdict R hd
  obtain ⟨x, hx, is⟩ := getK_some r hv
  exact tail_any hk.typeIs slot_dict_getitem.lookup (wpAny_getItem_of (PySem.strKind_is _ _ k tk) hk.mapOf hx ⟨v, σ, is, R.toks _, h⟩) (hs _ _)
theorem WPut.sdict {a t : Nat} {es : List (Str × MV)} {k : Str} {v : MV} {Q : Unit → Hp → Prop} (hd : σ a = some (t, .sdict es)) (hz : es.length ≤ 1000000) (h : Q () (σ.put a t (.sdict (putK es k v)))) : WPut c i (.ref a) (.str k) v ρ Q X σ := fun v' y u iv iy iu f fr z s _ _ g R => by
  cases iv; obtain ⟨tk, rfl⟩ := iy
  obtain ⟨l, kvs, hk, r⟩ := Rel.sdict R hd
  refine wpAny_setItem_pairs (PySem.strKind_is _ _ k tk) hk (fun h' hk' hs => ⟨(), _, rfl, R.upd (t' := t) (mo' := .sdict (putK es k v)) hd rfl rfl (.of_same hs (R.neL hd)) ⟨l, ?_⟩, h⟩) (size_ok (by rw [← r.length]; exact hz))
  obtain ⟨o, ho, hd'⟩ := Heap.dictOf_iff.mp hk'
  exact ⟨o, ho, _, hd', putK_all r iu⟩
end
end Mine
open PySem PySem.W PyProof.Rows
namespace Mine
open Classical in
noncomputable def addFr (fr : Nat → Option Obj) (I : Nat) (o : Obj) : Nat → Option Obj := fun a => if a = I then some o else fr a
theorem addFr_self {fr : Nat → Option Obj} {I : Nat} {o : Obj} : addFr fr I o I = some o := by simp [addFr]
theorem addFr_ne {fr : Nat → Option Obj} {I a : Nat} {o : Obj} (h : a ≠ I) : addFr fr I o a = fr a := by simp [addFr, h]
structure Alien (f : Fm) (σ : Hp) (fr : Nat → Option Obj) (I : Nat) : Prop where
  fr : fr I = none
  foot : ¬ Foot σ I
  L : I ≠ f.env.locals
  cells : ∀ x k, (x, k) ∈ f.env.cells → I ≠ k
theorem Good.add {c : Cx} {n : Nat} {f : Fm} {fr : Nat → Option Obj} (g : Good c n f fr) {I : Nat} {o : Obj} (hI : fr I = none) : Good c n f (addFr fr I o) := by
  have k : ∀ a o', fr a = some o' → addFr fr I o a = some o' := fun a o' e => by
    rw [addFr_ne (fun q => by subst q; rw [hI] at e; cases e)]; exact e
  exact {
    ok := g.ok, base := fun a o' e => k a o' (g.base a o' e), apart := g.apart, K := g.K, top := g.top, kind := g.kind, globals := g.globals, celled := g.celled, cellk := g.cellk, cellnd := g.cellnd, builtins := g.builtins
    room := g.room, units := g.units, frames := g.frames, topk := g.topk, low := g.low, slots := g.slots
    topL := by
      obtain ⟨L, h1, h2, h3⟩ := g.topL
      exact ⟨L, h1, h2.imp id fun ⟨h4, o', h5, h6⟩ => ⟨h4, o', k _ _ h5, h6⟩, h3⟩
    slotIn := fun a ha => let ⟨o', e⟩ := g.slotIn a ha; ⟨o', k _ _ e⟩
    home := g.home
    outer := fun env he => let ⟨h1, L, o', h2, h3, h4, h5⟩ := g.outer env he; ⟨h1, L, o', h2, h3, k _ _ h4, h5⟩ }
theorem Rel.add {c : Cx} {f : Fm} {ρ : Lo} {σ : Hp} {fr : Nat → Option Obj} {z s : Shared} (R : c.Rel f ρ σ fr z s) {I : Nat} {o : Obj} (al : Alien f σ fr I) (ho : s.heap.get? I = some o) : c.Rel f ρ σ (addFr fr I o) z s where
  same := R.same
  keep := fun a o' e => by
    by_cases q : a = I
    · subst q; rw [addFr_self] at e; cases e; exact ⟨o.slots, ho, fun _ => rfl⟩
    · rw [addFr_ne q] at e; exact R.keep a o' e
  objs := R.objs
  wf := R.wf
  apart := fun a h => by
    have q : a ≠ I := fun q => al.foot (q ▸ h)
    rw [addFr_ne q]; exact R.apart a h
  ns := R.ns
  cel := R.cel
  frame := ⟨by rw [addFr_ne (Ne.symm al.L)]; exact R.frame.1, fun x k hk => by rw [addFr_ne (Ne.symm (al.cells x k hk))]; exact R.frame.2 x k hk⟩
  kl := R.kl
theorem Rel.drop {c : Cx} {f : Fm} {ρ : Lo} {σ : Hp} {fr : Nat → Option Obj} {z s : Shared} {I : Nat} {o : Obj} (hI : fr I = none) (R : c.Rel f ρ σ (addFr fr I o) z s) (hs : I ∉ f.slotted) : c.Rel f ρ σ fr z s ∧ Alien f σ fr I ∧ s.heap.get? I = some o := by
  have k : ∀ a o', fr a = some o' → addFr fr I o a = some o' := fun a o' e => by
    rw [addFr_ne (fun q => by subst q; rw [hI] at e; cases e)]; exact e
  have back : ∀ a, addFr fr I o a = none → a ≠ I ∧ fr a = none := fun a e => by
    by_cases q : a = I
    · subst q; rw [addFr_self] at e; cases e
    · rw [addFr_ne q] at e; exact ⟨q, e⟩
  refine ⟨⟨R.same, fun a o' e => R.keep a o' (k a o' e), R.objs, R.wf, fun a h => ⟨(back a (R.apart a h).1).2, (R.apart a h).2⟩, R.ns, R.cel, ⟨(back _ R.frame.1).2, fun x c' hc => ⟨(back _ (R.frame.2 x c' hc).1).2, (R.frame.2 x c' hc).2⟩⟩, R.kl⟩, ?_, ?_⟩
  · exact ⟨hI, fun h => (back I (R.apart I h).1).1 rfl, fun q => (back _ R.frame.1).1 q.symm, fun x c' hc q => (back _ (R.frame.2 x c' hc).1).1 q.symm⟩
  · obtain ⟨sl, e1, e2⟩ := R.keep I o addFr_self
    rw [e1, e2 hs]
theorem Rel.alien {c : Cx} {f : Fm} {ρ : Lo} {σ : Hp} {fr : Nat → Option Obj} {z s : Shared} (R : c.Rel f ρ σ fr z s) {I : Nat} (al : Alien f σ fr I) {h' : Heap} {tk : Nat} (hk : ∀ t mo, σ I ≠ some (t, mo)) (k : ∀ a o, a ≠ I → s.heap.get? a = some o → h'.get? a = some o) :
    c.Rel f ρ σ fr z { s with heap := h', toks := tk } where
  same := R.same
  keep := fun a o e => let ⟨sl, e1, e2⟩ := R.keep a o e; ⟨sl, k a _ (fun q => by subst q; rw [al.fr] at e; cases e) e1, e2⟩
  objs := fun a t mo e => (R.objs a t mo e).of_same (fun o e' => k a o (fun q => by subst q; exact hk t mo e) e') fun d o hi ed e' => k d o (fun q => by
    subst ed
    cases mo <;> first | cases hi | skip
    exact al.foot (q ▸ .inr ⟨_, _, _, e⟩)) e'
  wf := R.wf
  apart := R.apart
  ns := by obtain ⟨m, ⟨o, es, ep, e, r⟩, q⟩ := R.ns; exact ⟨m, ⟨o, es, ep, k _ _ (Ne.symm al.L) e, r⟩, q⟩
  cel := fun x c' hc => by obtain ⟨o, v, e, r⟩ := R.cel x c' hc; exact ⟨o, v, k _ _ (Ne.symm (al.cells x c' hc)) e, r⟩
  frame := R.frame
  kl := R.kl
structure Steps (c : Cx) (I : Nat) (It : Nat → Heap → Prop) (items : List MV) (still : Hp → Prop) : Prop where
  obj : ∀ k h, It k h → ∃ o, h.get? I = some o ∧ o.cls ≠ .type "list"
  move : ∀ k h h', It k h → (∀ o, h.get? I = some o → h'.get? I = some o) → It k h'
  item : ∀ {k v f ρ σ fr z s A} {Q : Option Value → Shared → Prop} {E : Value → Shared → Prop}, c.Rel f ρ σ fr z s → A.handled = none → still σ → It k s.heap → items[k]? = some v →
    (∀ u h' tk, v.Is u → It (k + 1) h' → (∀ a o, a ≠ I → s.heap.get? a = some o → h'.get? a = some o) → Q (some u) { s with heap := h', toks := tk }) → wpAny c.M A (pyNext (.ref I)) Q E s
  self : ∀ {k s A} {Q : Value → Shared → Prop} {E : Value → Shared → Prop}, It k s.heap → Q (.ref I) s → wpAny c.M A (pyIter (.ref I)) Q E s
  done : ∀ {k f ρ σ fr z s A} {Q : Option Value → Shared → Prop} {E : Value → Shared → Prop}, c.Rel f ρ σ fr z s → A.handled = none → still σ → It k s.heap → items[k]? = none →
    (∀ h' tk, (∀ a o, a ≠ I → s.heap.get? a = some o → h'.get? a = some o) → Q none { s with heap := h', toks := tk }) → wpAny c.M A (pyNext (.ref I)) Q E s
def WFor (c : Cx) (i : Ix) (x : Str) (body : List Stmt) (still : Hp → Prop) (Q : MF → Lo → Hp → Prop) : List MV → Lo → Hp → Prop
  | [], ρ, σ => still σ ∧ Q .next ρ σ
  | v :: vs, ρ, σ => still σ ∧ WSt c i x v ρ (fun ρ₁ σ₁ => WSs c i body ρ₁ (fun m ρ₂ σ₂ => match m with
      | .next | .cont => WFor c i x body still Q vs ρ₂ σ₂
      | .brk => Q .next ρ₂ σ₂
      | .ret u => Q (.ret u) ρ₂ σ₂) noSX σ₁) noSX σ
theorem noSX_elim {c : Cx} {f : Fm} {fr : Nat → Option Obj} {z : Shared} {v : Value} {s : Shared} {P : Prop} (h : XPost c f fr z noSX v s) : P := let ⟨_, _, _, _, _, _, _, q⟩ := h; q.elim
theorem for_code {c : Cx} {i : Ix} (hn : i.hn = true) {x : Str} {px : Pos} {body : List Stmt} {I : Nat} {It : Nat → Heap → Prop} {items : List MV} {still : Hp → Prop} (T : Steps c I It items still) {ρ : Lo} {σ : Hp} {Q : MF → Lo → Hp → Prop} {X : Value → Shared → Prop}
    {f : Fm} {fr : Nat → Option Obj} {z s : Shared} (a : f.env.scope = i.sc) (b : i.hn = true → f.A.handled = none) (g : Good c i.n f fr) (R : c.Rel f ρ σ fr z s) (al : Alien f σ fr I) (it : It 0 s.heap) (h : WFor c i x body still Q items ρ σ) :
    codeAny c.M f.A (.forLoop (.Name x px) (.ref I) body [] f.env) (fun r s' => match r with
      | .ok fl => ∃ m ρ' σ', MF.Is m fl ∧ c.Rel f ρ' σ' fr z s' ∧ Q m ρ' σ'
      | .error e => X e s') s := by
  have nI : I ∉ f.slotted := fun h => by obtain ⟨o, e⟩ := g.slotIn I h; rw [al.fr] at e; cases e
  refine codeAny_forLoop (fun m s' => ∃ k ρ' σ', m + k = items.length ∧ It k s'.heap ∧ c.Rel f ρ' σ' fr z s' ∧ Alien f σ' fr I ∧ WFor c i x body still Q (items.drop k) ρ' σ') ?_ items.length ⟨0, ρ, σ, by simp, it, R, al, by simpa using h⟩
  rintro m s' ⟨k, ρ', σ', hmk, it', R', al', h'⟩
  have hkl : ∀ t mo, σ' I ≠ some (t, mo) := fun t mo e => by
    cases q : mo.isK with
    | false => exact al'.foot (.of_some e q)
    | true =>
      cases mo <;> first | cases q | skip
      obtain ⟨h1, h2, _⟩ := R'.objs _ _ _ e
      obtain ⟨o, h3, h4⟩ := T.obj _ _ it'
      rw [h3] at h1; cases h1; exact h4 h2
  cases e : items[k]? with
  | none =>
    have el : items.drop k = [] := by
      rw [List.drop_eq_nil_iff]
      exact List.getElem?_eq_none_iff.mp e
    rw [el] at h'
    refine T.done R' (b hn) h'.1 it' e fun h₁ tk k₁ => ?_
    refine wpAny_execs_nil ?_
    exact ⟨.next, ρ', σ', rfl, R'.alien (tk := tk) al' hkl k₁, h'.2⟩
  | some v =>
    obtain ⟨hlt, rfl⟩ := List.getElem?_eq_some_iff.mp e
    rw [List.drop_eq_getElem_cons hlt] at h'
    refine T.item R' (b hn) h'.1 it' e fun u h₁ tk is it₁ k₁ => ?_
    have R₁ := R'.alien (tk := tk) al' hkl k₁
    obtain ⟨o, ho, hoc⟩ := T.obj _ _ it₁
    have R₂ := R₁.add al' ho
    refine wpAny_assign_Name (wuse4 (h'.2 u is f _ z _ a b (g.add al.fr) R₂) (fun _ s₂ ρ₂ σ₂ R₃ h₂ => ?_) fun _ _ x => noSX_elim x)
    refine wuse6 (h₂ f _ z s₂ a b (g.add al.fr) R₃) (fun fl s₃ mf ρ₃ σ₃ is₃ R₄ h₃ => ?_) fun _ _ x => noSX_elim x
    obtain ⟨R₅, al₅, ho₅⟩ := Rel.drop al.fr R₄ nI
    have again : WFor c i x body still Q (items.drop (k + 1)) ρ₃ σ₃ → ∃ m', m' < m ∧ ∃ k ρ' σ', m' + k = items.length ∧ It k s₃.heap ∧ c.Rel f ρ' σ' fr z s₃ ∧ Alien f σ' fr I ∧ WFor c i x body still Q (items.drop k) ρ' σ' := fun h₃ => by
      refine ⟨m - 1, by omega, k + 1, ρ₃, σ₃, by omega, T.move _ _ _ it₁ fun o' e' => ?_, R₅, al₅, h₃⟩
      rw [ho] at e'; cases e'; exact ho₅
    cases mf with
    | next => cases is₃; exact again h₃
    | cont => cases is₃; exact again h₃
    | brk => cases is₃; exact ⟨.next, ρ₃, σ₃, rfl, R₅, h₃⟩
    | ret v => obtain ⟨u', rfl, is'⟩ := is₃; exact ⟨.ret v, ρ₃, σ₃, ⟨u', rfl, is'⟩, R₅, h₃⟩
theorem Steps.list (c : Cx) {I a : Nat} (hne : a ≠ I) (xs : List MV) : Steps c I (fun k h => h.IsListIter I a k) xs (fun σ => ListAt σ a xs) where
  obj := fun k h ⟨o, h1, h2, _⟩ => ⟨o, h1, by rw [h2]; decide⟩
  move := fun k h h' ⟨o, h1, h2⟩ m => ⟨o, m o h1, h2⟩
  item := fun R hh st it e hQ => by
    obtain ⟨its, hi, r⟩ := R.isList st
    obtain ⟨u, hu, is⟩ := r.get e
    exact wpAny_pyNext_list_item it hi (by simpa using hu) fun h' it' hs => hQ u h' _ is it' fun a o ne ho => (hs.2 a ne).trans ho
  self := fun it hQ => wpAny_pyIter_listiter it hQ
  done := fun R hh st it e hQ => by
    obtain ⟨its, hi, r⟩ := R.isList st
    refine wpAny_pyNext_list_end hh it hi ?_ fun h' hs => hQ h' _ hs
    have := r.length
    rw [Array.getElem?_eq_none_iff]
    rw [List.getElem?_eq_none_iff] at e
    simp at this
    omega
def upTo (lo hi : Int) : List MV := (List.range (hi - lo).toNat).map fun (k : Nat) => .int (lo + (k : Int))
theorem Steps.range (c : Cx) {I : Nat} (lo hi : Int) : Steps c I (fun k h => IsRangeIter h I (lo + (k : Nat)) (((hi - lo).toNat : Int) - (k : Nat)) 1) (upTo lo hi) (fun _ => True) where
  obj := fun k h e => ⟨_, e, by show Value.type "range_iterator" ≠ .type "list"; decide⟩
  move := fun k h h' e m => m _ e
  item := fun {k v f ρ σ fr z s A Q E} R hh st it e hQ => by
    unfold upTo at e
    rw [List.getElem?_map, Option.map_eq_some_iff] at e
    obtain ⟨j, e1, rfl⟩ := e
    obtain ⟨hj, e2⟩ := List.getElem?_eq_some_iff.mp e1
    rw [List.getElem_range] at e2
    subst e2
    rw [List.length_range] at hj
    refine wpAny_pyNext_range_item it (by omega) fun h' it' hs => hQ _ h' _ ⟨_, rfl⟩ ?_ fun a o ne ho => (hs.2 a ne).trans ho
    have e1 : lo + ((k + 1 : Nat) : Int) = lo + (k : Int) + 1 := by omega
    have e2 : ((hi - lo).toNat : Int) - ((k + 1 : Nat) : Int) = ((hi - lo).toNat : Int) - (k : Int) - 1 := by omega
    rw [e1, e2]; exact it'
  self := fun it hQ => wpAny_pyIter_rangeiter it hQ
  done := fun {k f ρ σ fr z s A Q E} R hh st it e hQ => by
    refine wpAny_pyNext_range_end hh it ?_ fun h' hs => hQ h' _ hs
    rw [List.getElem?_eq_none_iff] at e
    simp [upTo] at e
    omega
theorem isInt_shape {c : Cx} {k : Int} {v : Value} (h : (PySem.intKind c.prog c.w).is k v = true) : ∃ t, v = .int k t := by
  cases v <;> simp [PySem.intKind, Value.isInt] at h
  subst h
  exact ⟨_, rfl⟩
theorem Steps.idict (c : Cx) {I a : Nat} (es : List (Int × MV)) (ep : Nat) (hne : a ≠ I) : Steps c I (fun k h => h.IsKeyIter I a k es.length ep) (es.map fun p => .int p.1) (fun σ => ∃ t, σ a = some (t, .idict es ep)) where
  obj := fun k h ⟨o, h1, h2, _⟩ => ⟨o, h1, by rw [h2]; decide⟩
  move := fun k h h' ⟨o, h1, h2⟩ m => ⟨o, m o h1, h2⟩
  item := fun {k v f ρ σ fr z s A Q E} R hh st it e hQ => by
    obtain ⟨t, st⟩ := st
    obtain ⟨l, kvs, _, hD, r⟩ := Rel.idict R st
    rw [List.getElem?_map, Option.map_eq_some_iff] at e
    obtain ⟨p, e1, rfl⟩ := e
    obtain ⟨q, hq, hpq⟩ := r.get e1
    have it2 : s.heap.IsKeyIter I a k kvs.length ep := by rw [← r.length]; exact it
    refine wpAny_pyNext_dict_item it2 hD (k := q.1) (v := q.2) hq fun key h' hk it' hs => ?_
    rw [← hpq.1] at hk
    exact hQ key h' _ (isInt_shape hk) (by show h'.IsKeyIter I a (k + 1) es.length ep; rw [r.length]; exact it') fun a o ne ho => (hs.2 a ne).trans ho
  self := fun it hQ => wpAny_pyIter_keyiter it hQ
  done := fun {k f ρ σ fr z s A Q E} R hh st it e hQ => by
    obtain ⟨t, st⟩ := st
    obtain ⟨l, kvs, _, hD, r⟩ := Rel.idict R st
    have it2 : s.heap.IsKeyIter I a k kvs.length ep := by rw [← r.length]; exact it
    refine wpAny_pyNext_dict_end hh it2 hD ?_ fun h' hs => hQ h' _ hs
    rw [List.getElem?_map, Option.map_eq_none_iff, List.getElem?_eq_none_iff, r.length] at e
    exact List.getElem?_eq_none_iff.mpr e
theorem Rel.edict {c : Cx} {f : Fm} {ρ : Lo} {σ : Hp} {fr : Nat → Option Obj} {z s : Shared} (R : c.Rel f ρ σ fr z s) {a t ep : Nat} {es : List (Str × MV)} (h : σ a = some (t, .edict es ep)) : (a == sysModules) = false ∧ ∃ kvs, s.heap.DictOf (PySem.strKind c.prog c.w) a kvs ∧ s.heap.DictAt (PySem.strKind c.prog c.w) a kvs ep ∧ All2 PR es kvs := by
  obtain ⟨l, o, ho, ⟨kvs, hd, r⟩, q, hq⟩ := R.objs _ _ _ h
  have hk := Heap.dictOf_iff.mpr ⟨o, ho, hd⟩
  refine ⟨l, kvs, hk, ?_, r⟩
  obtain ⟨ep', o', es', h1, h2, h3, h4⟩ := hk.dictAt
  obtain rfl : o = o' := Option.some.inj (ho.symm.trans h1)
  rw [hq] at h3
  cases h3
  exact ⟨o, q, ho, h2, hq, h4⟩
theorem isText_shape {c : Cx} {k : Str} {v : Value} (h : (PySem.strKind c.prog c.w).is k v = true) : ∃ t, v = .str k t := by
  cases v <;> simp [PySem.strKind, Value.isStrOf] at h
  subst h
  exact ⟨_, rfl⟩
theorem Steps.edict (c : Cx) {I a : Nat} (es : List (Str × MV)) (ep : Nat) (hne : a ≠ I) : Steps c I (fun k h => h.IsKeyIter I a k es.length ep) (es.map fun p => .str p.1) (fun σ => ∃ t, σ a = some (t, .edict es ep)) where
  obj := fun k h ⟨o, h1, h2, _⟩ => ⟨o, h1, by rw [h2]; decide⟩
  move := fun k h h' ⟨o, h1, h2⟩ m => ⟨o, m o h1, h2⟩
  item := fun {k v f ρ σ fr z s A Q E} R hh st it e hQ => by
    obtain ⟨t, st⟩ := st
    obtain ⟨l, kvs, _, hD, r⟩ := Rel.edict R st
    rw [List.getElem?_map, Option.map_eq_some_iff] at e
    obtain ⟨p, e1, rfl⟩ := e
    obtain ⟨q, hq, hpq⟩ := r.get e1
    have it2 : s.heap.IsKeyIter I a k kvs.length ep := by rw [← r.length]; exact it
    refine wpAny_pyNext_dict_item it2 hD (k := q.1) (v := q.2) hq fun key h' hk it' hs => ?_
    rw [← hpq.1] at hk
    exact hQ key h' _ (isText_shape hk) (by show h'.IsKeyIter I a (k + 1) es.length ep; rw [r.length]; exact it') fun a o ne ho => (hs.2 a ne).trans ho
  self := fun it hQ => wpAny_pyIter_keyiter it hQ
  done := fun {k f ρ σ fr z s A Q E} R hh st it e hQ => by
    obtain ⟨t, st⟩ := st
    obtain ⟨l, kvs, _, hD, r⟩ := Rel.edict R st
    have it2 : s.heap.IsKeyIter I a k kvs.length ep := by rw [← r.length]; exact it
    refine wpAny_pyNext_dict_end hh it2 hD ?_ fun h' hs => hQ h' _ hs
    rw [List.getElem?_map, Option.map_eq_none_iff, List.getElem?_eq_none_iff, r.length] at e
    exact List.getElem?_eq_none_iff.mpr e
theorem Steps.text (c : Cx) {I : Nat} (x : Str) (t : Tok) : Steps c I (fun k h => h.IsStrIter I "str_ascii_iterator" x t k) (x.cps.toList.map fun n => .str ⟨#[n]⟩) (fun _ => True) where
  obj := fun k h ⟨o, h1, h2, _⟩ => ⟨o, h1, by rw [h2]; decide⟩
  move := fun k h h' ⟨o, h1, h2⟩ m => ⟨o, m o h1, h2⟩
  item := fun {k v f ρ σ fr z s A Q E} R hh st it e hQ => by
    rw [List.getElem?_map, Option.map_eq_some_iff] at e
    obtain ⟨n, e1, rfl⟩ := e
    exact wpAny_pyNext_ascii_item it (by simpa using e1) fun h' it' hs => hQ _ h' _ ⟨_, rfl⟩ it' fun a o ne ho => (hs.2 a ne).trans ho
  self := fun it hQ => wpAny_pyIter_striter_ascii it hQ
  done := fun {k f ρ σ fr z s A Q E} R hh st it e hQ => by
    rw [List.getElem?_map, Option.map_eq_none_iff] at e
    exact wpAny_pyNext_ascii_end hh it (by simpa using e) fun h' hs => hQ h' _ hs
theorem Rel.isTuple {c : Cx} {f : Fm} {ρ : Lo} {σ : Hp} {fr : Nat → Option Obj} {z s : Shared} (R : c.Rel f ρ σ fr z s) {a t : Nat} {xs : List MV} (h : σ a = some (t, .tuple xs)) : ∃ its, s.heap.IsTuple a its ∧ All2 MV.Is xs its.toList := by
  obtain ⟨its, n, ho, r⟩ := R.objs _ _ _ h; exact ⟨its, ⟨_, ho, rfl, n, rfl⟩, r⟩
section
variable {c : Cx} {i : Ix} {ρ : Lo} {σ : Hp} {X : SX} {Q : MF → Lo → Hp → Prop}
abbrev NotSet (e : Expr) : Prop := ∀ env x, foldedSetIterable e env x = pure x
inductive Iterable : Hp → MV → List MV → (Hp → Prop) → Prop
  | list {σ a xs} : ListAt σ a xs → Iterable σ (.ref a) xs (fun σ => ListAt σ a xs)
  | range {σ a t lo hi} : σ a = some (t, .range lo hi) → -1000000000000 ≤ lo → lo ≤ 1000000000000 → -1000000000000 ≤ hi → hi ≤ 1000000000000 → Iterable σ (.ref a) (upTo lo hi) (fun _ => True)
  | idict {σ a t es ep} : σ a = some (t, .idict es ep) → Iterable σ (.ref a) (es.map fun p => .int p.1) (fun σ => ∃ t, σ a = some (t, .idict es ep))
  | edict {σ a t es ep} : σ a = some (t, .edict es ep) → Iterable σ (.ref a) (es.map fun p => .str p.1) (fun σ => ∃ t, σ a = some (t, .edict es ep))
  | text {σ x} : x.cps.all (· < 128) = true → Iterable σ (.str x) (x.cps.toList.map fun n => .str ⟨#[n]⟩) (fun _ => True)
theorem fitsA {x : Int} (a : -1000000000000 ≤ x) (b : x ≤ 1000000000000) : -2 ^ 63 ≤ x ∧ x < 2 ^ 63 := by omega
theorem iter_start {f : Fm} {fr : Nat → Option Obj} {z s : Shared} {A : Around} {v : MV} {u : Value} {xs : List MV} {still : Hp → Prop} {E : Value → Shared → Prop} {P : Value → Shared → Prop} (R : c.Rel f ρ σ fr z s) (itb : Iterable σ v xs still) (is : v.Is u)
    (h : ∀ I It h₂, Steps c I It xs still → s.heap.objs.size ≤ I → I < h₂.objs.size → (∀ b o, s.heap.get? b = some o → h₂.get? b = some o) → It 0 h₂ → P (.ref I) { s with heap := h₂ }) : wpAny c.M A (pyIter u) P E s := by
  cases itb with
  | @list l xs hl =>
    cases is
    obtain ⟨its, hi, r⟩ := R.isList hl
    have hlt : l < s.heap.objs.size := by obtain ⟨o, ho, _⟩ := hi; exact Heap.lt_size ho
    exact wpAny_pyIter_list hi (h _ _ _ (Steps.list c (Nat.ne_of_lt hlt) xs) (Nat.le_refl _) (by rw [Heap.size_push]; exact Nat.lt_succ_self _) (grows _ _) ⟨_, Heap.get?_push_size _ rfl, rfl, rfl⟩)
  | @range l t lo hi hr h1 h2 h3 h4 =>
    cases is
    obtain ⟨t1, t2, t3, hr'⟩ := R.objs _ _ _ hr
    refine wpAny_pyIter_range hr' ?_ (h _ _ _ (Steps.range c lo hi) (Nat.le_refl _) (by rw [Heap.size_push]; exact Nat.lt_succ_self _) (grows _ _) ?_)
    · unfold Builtin.Range.small
      rw [rangeSize_nat]
      rw [if_pos (by decide : (1 : Int) > 0)]
      simp only [Bool.and_eq_true, Bool.or_eq_true, Builtin.Range.rangeFitsLong, decide_eq_true_eq]
      refine ⟨⟨⟨⟨?_, ?_⟩, ?_⟩, ?_⟩, .inr ?_⟩ <;> first | exact fitsA h1 h2 | exact fitsA h3 h4 | decide | (constructor <;> omega)
    · have e := Heap.get?_push_size s.heap (o := { cls := .type "range_iterator", data := .fields #[rawInt lo, rawInt (Builtin.Range.rangeSize lo hi 1), rawInt 1] }) rfl
      rw [rangeSize_nat] at e ⊢
      show IsRangeIter _ _ _ _ _
      have e1 : lo + ((0 : Nat) : Int) = lo := Int.add_zero lo
      have e2 : ((hi - lo).toNat : Int) - ((0 : Nat) : Int) = ((hi - lo).toNat : Int) := Int.sub_zero _
      rw [e1, e2]
      exact e
  | @idict l t es ep hd =>
    cases is
    obtain ⟨hl, kvs, _, hD, r⟩ := Rel.idict R hd
    have hlt : l < s.heap.objs.size := R.some_lt hd
    refine wpAny_pyIter_dict hl hD (h _ _ _ (Steps.idict c es ep (Nat.ne_of_lt hlt)) (Nat.le_refl _) (by rw [Heap.size_push]; exact Nat.lt_succ_self _) (grows _ _) ?_)
    show Heap.IsKeyIter _ _ _ _ _ _
    rw [r.length]
    exact ⟨_, Heap.get?_push_size _ rfl, rfl, rfl⟩
  | @edict l t es ep hd =>
    cases is
    obtain ⟨hl, kvs, _, hD, r⟩ := Rel.edict R hd
    have hlt : l < s.heap.objs.size := R.some_lt hd
    refine wpAny_pyIter_dict hl hD (h _ _ _ (Steps.edict c es ep (Nat.ne_of_lt hlt)) (Nat.le_refl _) (by rw [Heap.size_push]; exact Nat.lt_succ_self _) (grows _ _) ?_)
    show Heap.IsKeyIter _ _ _ _ _ _
    rw [r.length]
    exact ⟨_, Heap.get?_push_size _ rfl, rfl, rfl⟩
  | @text x hx =>
    obtain ⟨t, rfl⟩ := is
    exact wpAny_pyIter_ascii hx (h _ _ _ (Steps.text c x t) (Nat.le_refl _) (by rw [Heap.size_push]; exact Nat.lt_succ_self _) (grows _ _) ⟨_, Heap.get?_push_size _ rfl, rfl, rfl⟩)
theorem Rel.alienAt {f : Fm} {fr : Nat → Option Obj} {z s : Shared} (R : c.Rel f ρ σ fr z s) {I : Nat} (h : s.heap.objs.size ≤ I) {σ' : Hp} (hf : ¬ Foot σ' I) : Alien f σ' fr I where
  fr := by
    cases e : fr I with
    | none => rfl
    | some o => exact absurd (R.fr_lt e) (Nat.not_lt.mpr h)
  foot := hf
  L := fun q => by have h' := R.L_lt; rw [show f.L = I from q.symm] at h'; exact absurd h' (Nat.not_lt.mpr h)
  cells := fun x k hk q => by have h' := R.cel_lt hk; rw [← q] at h'; exact absurd h' (Nat.not_lt.mpr h)
theorem Rel.alienNew {f : Fm} {fr : Nat → Option Obj} {z s : Shared} (R : c.Rel f ρ σ fr z s) {I : Nat} (h : s.heap.objs.size ≤ I) : Alien f σ fr I := R.alienAt h fun hf => absurd (R.foot_lt hf) (Nat.not_lt.mpr h)
theorem WS.for {x px it body pos} (hn : i.hn = true) (hs : NotSet it) (h : WE c i it ρ (fun v σ₁ => ∃ xs still, Iterable σ₁ v xs still ∧ WFor c i x body still Q xs ρ σ₁) (X.ex ρ) σ) :
    WS c i (.For (.Name x px) it body [] pos) ρ Q X σ := fun f fr z s a b g R => by
  refine wpAny_For (wpAny_mono (h f fr z s a b g R) (fun u s₁ ⟨v, σ₁, is, R₁, xs, still, itb, h₁⟩ => ?_) fun _ _ x => Ex.at x) (hs _)
  refine iter_start R₁ itb is fun I It h₂ T hI _ kp it => ?_
  have R₂ := R₁.grown (tk := s₁.toks) kp
  exact codeAny_mono (for_code hn T (X := fun _ _ => False) a b g R₂ (R₁.alienNew hI) it h₁) fun r s' q => by
      cases r with
      | ok fl => exact q
      | error e => exact q.elim
theorem Alien.none {n : Nat} {f : Fm} {fr : Nat → Option Obj} {z s : Shared} (g : Good c n f fr) (R : c.Rel f ρ σ fr z s) {I : Nat} (al : Alien f σ fr I) : ∀ t mo, σ I ≠ some (t, mo) := fun t mo e => by
  cases q : mo.isK with
  | false => exact al.foot (.of_some e q)
  | true =>
    cases mo <;> first | cases q | skip
    have h1 := g.base _ _ (R.kl _ _ _ _ e)
    rw [al.fr] at h1; cases h1
end
end Mine
open PySem PySem.W PyProof.Rows
namespace Mine
section
variable {c : Cx} {i : Ix} {ρ : Lo} {σ : Hp} {X : EX}
theorem WCall.range1 {n : Int} {Q : MV → Hp → Prop} (t : Nat) (h : ∀ b, Fresh σ b → Q (.ref b) (σ.put b t (.range 0 n))) : WCall c i (.con (.type "range")) [.int n] ρ Q X σ := fun v us iv iu f fr z s _ _ g R => by
  cases iv
  obtain ⟨u, rfl, tk, rfl⟩ := iu.one
  refine call_range_1 ⟨.ref s.heap.objs.size, _, rfl, R.alloc (mo := .range 0 n) t (.of_grown (grows _ _)) (Nat.le_refl _) (fun q => by cases q) ⟨_, _, _, Heap.get?_push_size _ rfl⟩, h _ R.fresh⟩
theorem WCall.max2 {m n : Int} {Q : MV → Hp → Prop} (hn : i.hn = true) (h : Q (.int (if n > m then n else m)) σ) : WCall c i (.con (.builtin "max")) [.int m, .int n] ρ Q X σ := fun v us iv iu f fr z s _ hh g R => by
  cases iv
  obtain ⟨u, u', rfl, ⟨tk, rfl⟩, ⟨tk', rfl⟩⟩ := iu.two
  refine max_two_ints (hh hn) fun h' tk k => ⟨.int (if n > m then n else m), σ, ?_, R.grown k, h⟩
  split
  · exact ⟨_, rfl⟩
  · exact ⟨_, rfl⟩
theorem WCall.intB {b : Bool} {Q : MV → Hp → Prop} (h : Q (.int (if b then 1 else 0)) σ) : WCall c i (.con (.type "int")) [.bool b] ρ Q X σ := fun v us iv iu f fr z s _ hh g R => by
  cases iv
  obtain ⟨u, rfl, i1⟩ := iu.one
  cases i1
  exact call_int_bool ⟨.int _, σ, ⟨_, rfl⟩, R.toks _, h⟩
theorem WCall.listKeys {a t' : Nat} {es : List (Str × MV)} {Q : MV → Hp → Prop} (t : Nat) (hn : i.hn = true) (hd : σ a = some (t', .sdict es)) (hz : es.length ≤ 1000000) (h : ∀ b, Fresh σ b → Q (.ref b) (σ.put b t (.list (es.map fun p => .str p.1)))) : WCall c i (.con (.type "list")) [.ref a] ρ Q X σ := fun v us iv iu f fr z s _ hh g R => by
  cases iv
  obtain ⟨u, rfl, i1⟩ := iu.one
  cases i1
  obtain ⟨l, kvs, hk, r⟩ := Rel.sdict R hd
  obtain ⟨ep, hat⟩ := hk.dictAt
  refine kdl_call (kdl_dict (knd := PySem.strKind c.prog c.w) (kvs := kvs) (ep := ep) l) (hh hn) hat (size_ok (by rw [← r.length]; exact hz)) fun h' tk acc' c' kp hD hacc => ?_
  refine ⟨.ref s.heap.objs.size, _, rfl, R.alloc (mo := .list (es.map fun p => .str p.1)) t (.of_grown kp) (Nat.le_refl _) (fun q => by cases q) ⟨acc', c', hD, ?_⟩, h _ R.fresh⟩
  obtain ⟨hs, hp⟩ := hacc
  have key : ∀ (es : List (Str × MV)) (kvs : List (Str × Value)) (l : List Value), All2 PR es kvs → l.length = kvs.length → (∀ (j : Nat) v, l[j]? = some v → ∃ k x, kvs[j]? = some (k, x) ∧ (PySem.strKind c.prog c.w).is k v = true) → All2 MV.Is (es.map fun p => .str p.1) l := by
    intro es kvs l r
    induction r generalizing l with
    | nil => intro hl _; cases l with
      | nil => exact .nil
      | cons _ _ => simp at hl
    | @cons p q l1 l2 r0 r1 ih =>
      intro hl hv
      cases l with
      | nil => simp at hl
      | cons v l =>
        obtain ⟨k, x, e1, e2⟩ := hv 0 v rfl
        cases e1
        obtain ⟨tk, rfl⟩ := Value.isStrOf_shape e2
        refine .cons ⟨tk, ?_⟩ (ih l (by simpa using hl) fun j v' hj => hv (j + 1) v' hj)
        rw [r0.1]
  exact key es kvs acc'.toList r (by simpa using hs) fun j v hj => hp j v (by simpa using hj)
def repS (x : Str) (n : Nat) : Str := ⟨(List.replicate n x.cps).foldl (· ++ ·) #[]⟩
theorem foldl_app (l : List (Array Nat)) (acc : Array Nat) : l.foldl (· ++ ·) acc = acc ++ l.foldl (· ++ ·) #[] := by
  induction l generalizing acc with
  | nil => simp
  | cons a r ih => simp only [List.foldl_cons]; rw [ih (acc ++ a), ih (#[] ++ a)]; simp
theorem repS_length (x : Str) (n : Nat) : (repS x n).length = n * x.length := by
  show ((List.replicate n x.cps).foldl (· ++ ·) #[]).size = _
  induction n with
  | zero => simp
  | succ n ih =>
    rw [List.replicate_succ, List.foldl_cons, foldl_app, Array.size_append, Array.size_append, ih, Nat.succ_mul]
    show 0 + x.length + n * x.length = _
    omega
theorem WB.mulS {x : Str} {n : Int} {Q : MV → Hp → Prop} (h0 : 0 ≤ n) (h1 : n ≤ 1000) (h2 : x.length ≤ 1000) (h : Q (.str (repS x n.toNat)) σ) : WB c i .Mult (.str x) (.int n) ρ Q X σ := fun v u iv iu f fr z s _ _ g R => by
  obtain ⟨t, rfl⟩ := iv; obtain ⟨t', rfl⟩ := iu
  have hlen : x.length * n.toNat ≤ 1000000 := by
    have : n.toNat ≤ 1000 := by omega
    exact Nat.le_trans (Nat.mul_le_mul h2 this) (by decide)
  have fin : ∀ tk tk', (fun (a : Value) s' => ∃ m σ', MV.Is m a ∧ c.Rel f ρ σ' fr z s' ∧ Q m σ') (.str (repS x n.toNat) tk) { s with toks := tk' } := fun tk tk' => ⟨.str (repS x n.toNat), σ, ⟨_, rfl⟩, R.toks _, h⟩
  refine PySem.P.mul_str (by simp; omega) (fun _ hq => ?_) (fun _ _ => ?_) ?_
  · intro hgt
    have hn1 : (1 : Int) ≤ n := by omega
    have : (2 ^ 63 - 1 : Int) / 1000 ≤ (2 ^ 63 - 1) / n := by
      have h3 : (2 ^ 63 - 1 : Int) / 1000 * n ≤ 2 ^ 63 - 1 := by
        have : (2 ^ 63 - 1 : Int) / 1000 = 9223372036854775 := by decide
        rw [this]
        have : (9223372036854775 : Int) * n ≤ 9223372036854775 * 1000 := Int.mul_le_mul_of_nonneg_left h1 (by decide)
        omega
      exact (Int.le_ediv_iff_mul_le (by omega)).mpr h3
    have e : (2 ^ 63 - 1 : Int) / 1000 = 9223372036854775 := by decide
    omega
  · unfold Builtin.Str.tooLong
    rw [decide_eq_false_iff_not, sizeLine_eq]
    omega
  · by_cases q : n < 1
    · rw [if_pos q]
      have : n.toNat = 0 := by omega
      have e : repS x n.toNat = Str.empty := by rw [this]; rfl
      refine ⟨by rw [sizeLine_eq]; show 0 ≤ _; omega, ?_⟩
      rw [← e]; exact fin _ _
    · rw [if_neg q]
      by_cases q2 : (n == 1 || x.length == 0) = true
      · rw [if_pos q2]
        have e : repS x n.toNat = x := by
          rw [Bool.or_eq_true] at q2
          rcases q2 with q2 | q2
          · have : n.toNat = 1 := by have := beq_iff_eq.mp q2; omega
            rw [this]
            show (⟨(#[] ++ x.cps)⟩ : Str) = x
            rw [Array.empty_append]
          · have h3 := repS_length x n.toNat
            have h4 := beq_iff_eq.mp q2
            rw [h4, Nat.mul_zero] at h3
            obtain ⟨y, hy⟩ : ∃ y, repS x n.toNat = y := ⟨_, rfl⟩
            rw [hy] at h3 ⊢
            obtain ⟨a⟩ := y
            obtain ⟨b⟩ := x
            have h3' : a.size = 0 := h3
            have h4' : b.size = 0 := h4
            rw [Array.eq_empty_of_size_eq_zero h3', Array.eq_empty_of_size_eq_zero h4']
        show (fun (a : Value) s' => ∃ m σ', MV.Is m a ∧ c.Rel f ρ σ' fr z s' ∧ Q m σ') (.str x t) s
        have := fin t s.toks
        rw [e] at this
        exact this
      · rw [if_neg q2]
        refine ⟨?_, fin _ _⟩
        rw [sizeLine_eq]
        have := repS_length x n.toNat
        show (repS x n.toNat).length ≤ _
        rw [this, Nat.mul_comm]
        omega
end
end Mine
open PySem PySem.W PyProof.Rows
namespace Mine
def closOf : List (Str × NameKind) → List (Str × Nat) → List (Str × Nat) → List (Str × Nat)
  | [], _, acc => acc
  | (x, k) :: r, cells, acc => if k == .free then closOf r cells ((x, (cells.lookup x).getD 0) :: acc) else closOf r cells acc
theorem closureFor_eq {scope : Scope} {env : Env} (h : ∀ p ∈ scope.names, p.2 = .free → (env.cells.lookup p.1).isSome = true) : closureFor scope env = pure (closOf scope.names env.cells []) := by
  unfold closureFor
  have key : ∀ (names : List (Str × NameKind)) (acc : List (Str × Addr)), (∀ p ∈ names, p.2 = .free → (env.cells.lookup p.1).isSome = true) →
      (forIn names acc fun x r => match x with
        | (name, kind) => if (kind == .free) = true then do
            let a ← cellOf env name
            pure (ForInStep.yield ((name, a) :: r))
          else pure (ForInStep.yield r)) = (pure (closOf names env.cells acc) : Sem _) := by
    intro names
    induction names with
    | nil => intro acc _; rfl
    | cons p r ih =>
      obtain ⟨x, k⟩ := p
      intro acc hh
      rw [List.forIn_cons]
      unfold closOf
      by_cases hk : (k == NameKind.free) = true
      · obtain ⟨a, ha⟩ := Option.isSome_iff_exists.mp (hh (x, k) (.head _) (by simpa using hk))
        have e : cellOf env x = pure a := by unfold cellOf; rw [ha]
        simp only [hk, if_true, e, pure_bind]
        rw [ih _ fun p hp => hh p (.tail _ hp), ha]
        rfl
      · simp only [hk, if_false, pure_bind]
        exact ih _ fun p hp => hh p (.tail _ hp)
  have := key scope.names [] h
  simp only [bind_pure_comp] at this ⊢
  rw [this]
  rfl
theorem mem_closOf {cells : List (Str × Nat)} {x : Str} {a : Nat} : ∀ {names : List (Str × NameKind)} {acc : List (Str × Nat)}, (x, a) ∈ closOf names cells acc ↔ (x, a) ∈ acc ∨ ((x, NameKind.free) ∈ names ∧ a = (cells.lookup x).getD 0)
  | [], acc => by simp [closOf]
  | (y, k) :: r, acc => by
    unfold closOf
    by_cases hk : (k == NameKind.free) = true
    · rw [if_pos hk, mem_closOf]
      have : k = .free := by simpa using hk
      subst this
      constructor
      · rintro (h | ⟨h, e⟩)
        · rcases List.mem_cons.mp h with h | h
          · cases h; exact .inr ⟨.head _, rfl⟩
          · exact .inl h
        · exact .inr ⟨.tail _ h, e⟩
      · rintro (h | ⟨h, e⟩)
        · exact .inl (.tail _ h)
        · rcases List.mem_cons.mp h with h | h
          · cases h; left; rw [e]; exact .head _
          · exact .inr ⟨h, e⟩
    · rw [if_neg hk, mem_closOf]
      constructor
      · rintro (h | ⟨h, e⟩)
        · exact .inl h
        · exact .inr ⟨.tail _ h, e⟩
      · rintro (h | ⟨h, e⟩)
        · exact .inl h
        · rcases List.mem_cons.mp h with h | h
          · cases h; exact absurd rfl hk
          · exact .inr ⟨h, e⟩
theorem closOf_names (cells : List (Str × Nat)) : ∀ (names : List (Str × NameKind)) (acc : List (Str × Nat)), (closOf names cells acc).map (·.1) = ((names.filter (·.2 == .free)).map (·.1)).reverse ++ acc.map (·.1)
  | [], acc => by simp [closOf]
  | (y, k) :: r, acc => by
    unfold closOf
    by_cases hk : (k == NameKind.free) = true
    · rw [if_pos hk, closOf_names cells r, List.filter_cons, if_pos hk]; simp
    · rw [if_neg hk, closOf_names cells r, List.filter_cons, if_neg hk]
def relab (scope sc : Scope) : Scope :=
  { scope with names := scope.names.map fun (n, k) => if (k == .free && sc.kind == .function && sc.names.lookup n == some .cell) then (n, .cell) else (n, k) }
def compOk (scope sc : Scope) (x : Str) : Bool :=
  scope.kind == .function && scope.names.all (fun p => p.2 != .cell && (p.2 != .local || p.1 == x || p.1 == (".0" : Str)) && (p.2 != .free || (sc.names.lookup p.1 == some .cell && p.1 != x && p.1 != (".0" : Str)))) && scope.names.lookup x == some .local &&
    decide ((scope.names.filter (·.2 == .free)).map (·.1)).Nodup && (scope.names.lookup (".0" : Str) == some .local || scope.names.all fun p => p.1 != (".0" : Str))
theorem compOk_dot {scope sc : Scope} {x : Str} (h : compOk scope sc x = true) : scope.names.lookup (".0" : Str) = some .local ∨ ∀ y ∈ scope.names, y.1 ≠ (".0" : Str) := by
  simp only [compOk, Bool.and_eq_true, beq_iff_eq, List.all_eq_true, bne_iff_ne, ne_eq, Bool.or_eq_true] at h
  exact h.2
structure CompOk (scope sc : Scope) (x : Str) : Prop where
  kind : scope.kind = .function
  nocell : ∀ p ∈ scope.names, p.2 ≠ .cell
  loc : ∀ p ∈ scope.names, p.2 = .local → p.1 = x ∨ p.1 = (".0" : Str)
  free : ∀ p ∈ scope.names, p.2 = .free → sc.names.lookup p.1 = some .cell ∧ p.1 ≠ x ∧ p.1 ≠ (".0" : Str)
  x : scope.names.lookup x = some .local
  nd : ((scope.names.filter (·.2 == .free)).map (·.1)).Nodup
theorem compOk_of {scope sc : Scope} {x : Str} (h : compOk scope sc x = true) : CompOk scope sc x := by
  simp only [compOk, Bool.and_eq_true, beq_iff_eq, List.all_eq_true, bne_iff_ne, ne_eq, Bool.or_eq_true, decide_eq_true_eq] at h
  obtain ⟨⟨⟨⟨h1, h2⟩, h3⟩, h4⟩, _⟩ := h
  refine ⟨h1, fun p hp => (h2 p hp).1.1, fun p hp e => ?_, fun p hp e => ?_, h3, h4⟩
  · rcases (h2 p hp).1.2 with (q | q) | q
    · exact absurd e q
    · exact .inl q
    · exact .inr q
  · rcases (h2 p hp).2 with q | q
    · exact absurd e q
    · exact ⟨q.1.1, q.1.2, q.2⟩
def compFm (f : Fm) (scope : Scope) (C : Nat) : Fm where
  A := f.A
  env := compEnvC scope (closOf scope.names f.env.cells []) C f.env
  top := f.top
  outer := f.outer
  slotted := frameAddrs (f.top :: f.outer)
  base := f.base
open Classical in
noncomputable def restC (σ : Hp) (s : Shared) (cl : List (Str × Nat)) : Nat → Option Obj := fun a => if Foot σ a ∨ ∃ x, (x, a) ∈ cl then none else s.heap.get? a
section
variable {c : Cx} {n : Nat} {f : Fm} {fr : Nat → Option Obj} {ρ : Lo} {σ : Hp} {z s : Shared} {scope : Scope} {x : Str}
theorem clos_mem (g : Good c n f fr) (ok : CompOk scope f.env.scope x) {y : Str} {a : Nat} (h : (y, a) ∈ closOf scope.names f.env.cells []) : (y, a) ∈ f.env.cells ∧ (y, NameKind.free) ∈ scope.names ∧ y ≠ x ∧ y ≠ (".0" : Str) := by
  rcases mem_closOf.mp h with h | ⟨h, e⟩
  · cases h
  · obtain ⟨h1, h2⟩ := ok.free _ h rfl
    obtain ⟨k, hk⟩ := Option.isSome_iff_exists.mp (g.celled y h1)
    rw [hk] at e
    exact ⟨e ▸ mem_lookup hk, h, h2⟩
theorem restC_of {cl : List (Str × Nat)} {a : Nat} {o : Obj} (h1 : ¬ Foot σ a) (h2 : ∀ y, (y, a) ∉ cl) (h3 : s.heap.get? a = some o) : restC σ s cl a = some o := by
  unfold restC; rw [if_neg (by rintro (q | ⟨y, q⟩); exact h1 q; exact h2 y q)]; exact h3
theorem restC_some {cl : List (Str × Nat)} {a : Nat} {o : Obj} (h : restC σ s cl a = some o) : s.heap.get? a = some o := by
  unfold restC at h; split at h; cases h; exact h
theorem restC_none {cl : List (Str × Nat)} {a : Nat} (h : s.heap.objs.size ≤ a) : restC σ s cl a = none := by
  cases e : restC σ s cl a with
  | none => rfl
  | some o => exact absurd (Heap.lt_size (restC_some e)) (Nat.not_lt.mpr h)
theorem Good.frameC (g : Good c n f fr) (R : c.Rel f ρ σ fr z s) (ok : CompOk scope f.env.scope x) : ∀ env ∈ f.top :: f.outer, env.scope.kind ≠ .module ∧ ∃ L o, env.frame = some L ∧ restC σ s (closOf scope.names f.env.cells []) L = some o ∧ (∀ vs, o.data ≠ .fields vs) ∧ f.base.get? L = none := by
  intro env he
  rcases List.mem_cons.mp he with rfl | he
  · refine ⟨by rw [g.topk.1]; (intro q; cases q), ?_⟩
    obtain ⟨L, hL, h, hb⟩ := g.topL
    rcases h with rfl | ⟨hs, o, ho, hd⟩
    · obtain ⟨m, ⟨o, es, ep, h1, h2, _⟩, _⟩ := R.ns
      exact ⟨_, o, hL, restC_of (fun hf => (R.apart _ hf).2.1 rfl) (fun y hy => (R.frame.2 _ _ (clos_mem g ok hy).1).2 rfl) h1, fun vs e => (by rw [h2] at e; cases e), hb⟩
    · obtain ⟨sl, h1, _⟩ := R.keep L o ho
      exact ⟨L, { o with slots := sl }, hL, restC_of (fun hf => by have := (R.apart _ hf).1; rw [ho] at this; cases this) (fun y hy => by have := (R.frame.2 _ _ (clos_mem g ok hy).1).1; rw [ho] at this; cases this) h1, hd, hb⟩
  · obtain ⟨hk, L, o, hL, hs, ho, hd⟩ := g.outer env he
    obtain ⟨sl, h1, _⟩ := R.keep L o ho
    exact ⟨hk, L, { o with slots := sl }, hL, restC_of (fun hf => by have := (R.apart _ hf).1; rw [ho] at this; cases this) (fun y hy => by have := (R.frame.2 _ _ (clos_mem g ok hy).1).1; rw [ho] at this; cases this) h1, hd, g.apart L hs⟩
theorem relab_cell {sc : Scope} {y : Str} : ∀ {names : List (Str × NameKind)}, (∀ p ∈ names, p.2 ≠ .cell) → (names.map fun (n, k) => if (k == NameKind.free && sc.kind == .function && sc.names.lookup n == some .cell) then (n, NameKind.cell) else (n, k)).lookup y = some .cell → (y, NameKind.free) ∈ names
  | [], _, h => by simp at h
  | (z, k) :: r, hc, h => by
    rw [List.map_cons] at h
    dsimp only at h
    split at h
    · rename_i hk
      rw [List.lookup_cons] at h
      cases q : (y == z) with
      | true =>
        have : k = .free := by simp only [Bool.and_eq_true, beq_iff_eq] at hk; exact hk.1.1
        rw [beq_iff_eq.mp q, this]; exact .head _
      | false => rw [q] at h; exact .tail _ (relab_cell (fun p hp => hc p (.tail _ hp)) h)
    · rw [List.lookup_cons] at h
      cases q : (y == z) with
      | true => rw [q] at h; cases h; exact absurd rfl (hc (z, .cell) (.head _))
      | false => rw [q] at h; exact .tail _ (relab_cell (fun p hp => hc p (.tail _ hp)) h)
theorem relab_local {sc : Scope} {y : Str} : ∀ {names : List (Str × NameKind)}, (names.map fun (n, k) => if (k == NameKind.free && sc.kind == .function && sc.names.lookup n == some .cell) then (n, NameKind.cell) else (n, k)).lookup y = some .local → (y, NameKind.local) ∈ names
  | [], h => by simp at h
  | (z, k) :: r, h => by
    rw [List.map_cons] at h
    dsimp only at h
    split at h
    · rw [List.lookup_cons] at h
      cases q : (y == z) with
      | true => rw [q] at h; cases h
      | false => rw [q] at h; exact .tail _ (relab_local h)
    · rw [List.lookup_cons] at h
      cases q : (y == z) with
      | true => rw [q] at h; cases h; rw [beq_iff_eq.mp q]; exact .head _
      | false => rw [q] at h; exact .tail _ (relab_local h)
theorem compFm_good (g : Good c n f fr) (R : c.Rel f ρ σ fr z s) (ok : CompOk scope f.env.scope x) {C : Nat} (hC : s.heap.objs.size ≤ C) : Good c n (compFm f scope C) (restC σ s (closOf scope.names f.env.cells [])) := by
  have hfr := g.frameC R ok
  have nm := closOf_names f.env.cells scope.names []
  exact {
    ok := g.ok
    base := fun a o e => by
      have h1 := g.base a o e
      exact restC_of (fun hf => by have := (R.apart a hf).1; rw [h1] at this; cases this) (fun y hy => by have := (R.frame.2 _ _ (clos_mem g ok hy).1).1; rw [h1] at this; cases this) (g.keep R a o e)
    apart := fun a ha => by
      obtain ⟨env, he, hf⟩ := List.mem_filterMap.mp ha
      obtain ⟨_, L, o, hL, _, _, hb⟩ := hfr env he
      rw [hL] at hf; cases hf; exact hb
    K := g.K
    top := g.top
    kind := ok.kind
    globals := g.globals
    celled := fun y hy => by
      have h1 := relab_cell ok.nocell hy
      have h2 : (y, (f.env.cells.lookup y).getD 0) ∈ closOf scope.names f.env.cells [] := mem_closOf.mpr (.inr ⟨h1, rfl⟩)
      show ((closOf scope.names f.env.cells []).lookup y).isSome = true
      cases e : (closOf scope.names f.env.cells []).lookup y with
      | some v => rfl
      | none =>
        have : ∀ (l : List (Str × Nat)), l.lookup y = none → ∀ v, (y, v) ∉ l := by
          intro l
          induction l with
          | nil => intro _ v h; cases h
          | cons p r ih =>
            obtain ⟨z', w'⟩ := p
            intro hl v hv
            rw [List.lookup_cons] at hl
            cases q : (y == z') with
            | true => rw [q] at hl; cases hl
            | false =>
              rw [q] at hl
              rcases List.mem_cons.mp hv with hv | hv
              · cases hv; simp at q
              · exact ih hl v hv
        exact absurd h2 (this _ e _)
    cellk := fun y k hy q => by
      obtain ⟨h1, h2, h3, h4⟩ := clos_mem g ok hy
      rcases ok.loc _ (relab_local q) rfl with q | q
      · exact h3 q
      · exact h4 q
    cellnd := by
      have hn1 : ((closOf scope.names f.env.cells []).map (·.1)).Nodup := by
        rw [nm]; simp only [List.map_nil, List.append_nil]
        exact (List.reverse_perm _).symm.nodup ok.nd
      refine ⟨?_, hn1, fun y k hy q => ?_⟩
      · show ((closOf scope.names f.env.cells []).map (·.2)).Nodup
        have inj : ∀ y y' a, (y, a) ∈ closOf scope.names f.env.cells [] → (y', a) ∈ closOf scope.names f.env.cells [] → y = y' := by
          intro y y' a h1 h2
          have h1 := (clos_mem g ok h1).1
          have h2 := (clos_mem g ok h2).1
          have : ∀ (l : List (Str × Nat)), (l.map (·.2)).Nodup → (y, a) ∈ l → (y', a) ∈ l → y = y' := by
            intro l
            induction l with
            | nil => intro _ h; cases h
            | cons p r ih =>
              intro hn ha hb
              simp only [List.map_cons, List.nodup_cons] at hn
              rcases List.mem_cons.mp ha with ha | ha <;> rcases List.mem_cons.mp hb with hb | hb
              · rw [← ha] at hb; cases hb; rfl
              · exact absurd (List.mem_map.mpr ⟨_, hb, by rw [← ha]⟩) hn.1
              · exact absurd (List.mem_map.mpr ⟨_, ha, by rw [← hb]⟩) hn.1
              · exact ih hn.2 ha hb
          exact this _ g.cellnd.1 h1 h2
        have : ∀ (l : List (Str × Nat)), (l.map (·.1)).Nodup → (∀ y y' a, (y, a) ∈ l → (y', a) ∈ l → y = y') → (l.map (·.2)).Nodup := by
          intro l
          induction l with
          | nil => intro _ _; simp
          | cons p r ih =>
            obtain ⟨y, a⟩ := p
            intro hn hi
            simp only [List.map_cons, List.nodup_cons] at hn ⊢
            refine ⟨fun hm => ?_, ih hn.2 fun y1 y2 a' h1 h2 => hi y1 y2 a' (.tail _ h1) (.tail _ h2)⟩
            obtain ⟨⟨y', a'⟩, hp, e⟩ := List.mem_map.mp hm
            dsimp only at e
            subst e
            have := hi y y' a' (.head _) (.tail _ hp)
            subst this
            exact hn.1 (List.mem_map.mpr ⟨_, hp, rfl⟩)
        exact this _ hn1 inj
      · have h1 := R.cel_lt (clos_mem g ok hy).1
        exact absurd (Nat.lt_of_lt_of_le h1 hC) (by rw [show k = C from q]; exact Nat.lt_irrefl _)
    builtins := g.builtins
    room := g.room
    units := g.units
    frames := g.frames
    topk := g.topk
    low := g.low
    slots := fun a ha => .inr ha
    topL := by
      obtain ⟨_, L, o, hL, hr, hd, hb⟩ := hfr f.top (.head _)
      exact ⟨L, hL, .inr ⟨List.mem_filterMap.mpr ⟨f.top, .head _, hL⟩, o, hr, hd⟩, hb⟩
    slotIn := fun a ha => by
      obtain ⟨env, he, hf⟩ := List.mem_filterMap.mp ha
      obtain ⟨_, L, o, hL, hr, _, _⟩ := hfr env he
      rw [hL] at hf; cases hf; exact ⟨o, hr⟩
    home := g.home
    outer := fun env he => by
      obtain ⟨h1, L, o, hL, hr, hd, hb⟩ := hfr env (.tail _ he)
      exact ⟨h1, L, o, hL, List.mem_filterMap.mpr ⟨env, .tail _ he, hL⟩, hr, hd⟩ }
theorem compFm_rel (g : Good c n f fr) (R : c.Rel f ρ σ fr z s) (ok : CompOk scope f.env.scope x) (h0 : ρ (".0" : Str) = none) {C : Nat} (hC : s.heap.objs.size ≤ C) {h' : Heap} {tk : Nat} (kp : ∀ b o, s.heap.get? b = some o → h'.get? b = some o) (hn : h'.Ns C fun _ => none) :
    c.Rel (compFm f scope C) (fun y => if y = x then none else ρ y) σ (restC σ s (closOf scope.names f.env.cells [])) z { s with heap := h', toks := tk } where
  same := R.same
  keep := fun a o e => ⟨o.slots, kp a o (restC_some e), fun _ => rfl⟩
  objs := fun a t mo e => (R.objs a t mo e).keeps kp
  wf := R.wf
  apart := fun a hf => ⟨by unfold restC; rw [if_pos (.inl hf)], Nat.ne_of_lt (Nat.lt_of_lt_of_le (R.foot_lt hf) hC), fun y k hy => (R.apart a hf).2.2 y k (clos_mem g ok hy).1⟩
  ns := ⟨_, hn, fun y hy => by
    rcases ok.loc _ (relab_local hy) rfl with q | q
    · dsimp only at q; subst q; rw [if_pos rfl]; trivial
    · dsimp only at q; subst q; rw [h0]; split <;> trivial⟩
  cel := fun y k hy => by
    obtain ⟨h1, h2, h3, _⟩ := clos_mem g ok hy
    obtain ⟨o, v, e, r⟩ := R.cel y k h1
    refine ⟨o, v, kp _ _ e, ?_⟩
    rw [if_neg h3]; exact r
  frame := ⟨restC_none hC, fun y k hy => ⟨by unfold restC; rw [if_pos (.inr ⟨y, hy⟩)], by
    have := Nat.lt_of_lt_of_le (R.cel_lt (clos_mem g ok hy).1) hC
    exact Nat.ne_of_lt this⟩⟩
  kl := R.kl
theorem Rel.backC (g : Good c n f fr) (R : c.Rel f ρ σ fr z s) (ok : CompOk scope f.env.scope x) {C : Nat} {ρ' : Lo} {σ' : Hp} {s' : Shared} (R' : c.Rel (compFm f scope C) ρ' σ' (restC σ s (closOf scope.names f.env.cells [])) z s') (hρ : ∀ y, y ≠ x → ρ' y = ρ y) : c.Rel f ρ σ' fr z s' := by
  have nf : ∀ {a : Nat} {o : Obj}, fr a = some o → ¬ Foot σ a := fun e h => by have := (R.apart _ h).1; rw [e] at this; cases this
  have nL : ¬ Foot σ f.env.locals := fun h => (R.apart _ h).2.1 rfl
  have nC : ∀ {x k}, (x, k) ∈ f.env.cells → ¬ Foot σ k := fun hk h => (R.apart _ h).2.2 _ _ hk rfl
  have frc : ∀ {a : Nat} {o : Obj}, fr a = some o → ∀ y, (y, a) ∉ closOf scope.names f.env.cells [] := fun e y hy => by have := (R.frame.2 _ _ (clos_mem g ok hy).1).1; rw [e] at this; cases this
  have Lc : ∀ y, (y, f.env.locals) ∉ closOf scope.names f.env.cells [] := fun y hy => (R.frame.2 _ _ (clos_mem g ok hy).1).2 rfl
  obtain ⟨m, ⟨oL, es, ep, h1, h2⟩, hm⟩ := R.ns
  refine ⟨R'.same, fun a o e => ?_, R'.objs, R'.wf, fun a hf => ⟨?_, ?_, fun y k hk => ?_⟩, ?_, fun y k hk => ?_, R.frame, R'.kl⟩
  · obtain ⟨sl, e1, e2⟩ := R.keep a o e
    obtain ⟨sl', e3, e4⟩ := R'.keep a _ (restC_of (nf e) (frc e) e1)
    refine ⟨sl', e3, fun ha => ?_⟩
    rw [e4 fun hm => ?_, ← e2 ha]
    rcases g.slots a hm with rfl | h
    · have := R.frame.1; rw [show fr f.L = fr f.env.locals from rfl, e] at this; cases this
    · exact ha h
  · cases e : fr a with
    | none => rfl
    | some o =>
      obtain ⟨sl, e1, _⟩ := R.keep a o e
      have := (R'.apart a hf).1
      rw [restC_of (nf e) (frc e) e1] at this; cases this
  · intro q
    have := (R'.apart a hf).1
    rw [q, restC_of nL Lc h1] at this; cases this
  · intro q
    subst q
    by_cases hy : ∃ y', (y', a) ∈ closOf scope.names f.env.cells []
    · obtain ⟨y', hy'⟩ := hy; exact (R'.apart a hf).2.2 y' a hy' rfl
    · obtain ⟨o, v, e1, _⟩ := R.cel y a hk
      have := (R'.apart a hf).1
      rw [restC_of (nC hk) (fun y' h => hy ⟨y', h⟩) e1] at this; cases this
  · obtain ⟨sl, e1, _⟩ := R'.keep _ _ (restC_of nL Lc h1)
    exact ⟨m, ⟨_, es, ep, e1, h2⟩, hm⟩
  · by_cases hy : ∃ y', (y', k) ∈ closOf scope.names f.env.cells []
    · obtain ⟨y', hy'⟩ := hy
      have h3 := clos_mem g ok hy'
      have : y' = y := by
        have : ∀ (l : List (Str × Nat)), (l.map (·.2)).Nodup → (y', k) ∈ l → (y, k) ∈ l → y' = y := by
          intro l
          induction l with
          | nil => intro _ h; cases h
          | cons p r ih =>
            intro hn ha hb
            simp only [List.map_cons, List.nodup_cons] at hn
            rcases List.mem_cons.mp ha with ha | ha <;> rcases List.mem_cons.mp hb with hb | hb
            · rw [← ha] at hb; cases hb; rfl
            · exact absurd (List.mem_map.mpr ⟨_, hb, by rw [← ha]⟩) hn.1
            · exact absurd (List.mem_map.mpr ⟨_, ha, by rw [← hb]⟩) hn.1
            · exact ih hn.2 ha hb
        exact this _ g.cellnd.1 h3.1 hk
      subst this
      obtain ⟨o, v, e1, d, r⟩ := R'.cel y' k hy'
      rw [hρ y' h3.2.2.1] at r
      exact ⟨o, v, e1, d, r⟩
    · obtain ⟨o, v, e1, d, r⟩ := R.cel y k hk
      obtain ⟨sl, e2, _⟩ := R'.keep _ _ (restC_of (nC hk) (fun y' h => hy ⟨y', h⟩) e1)
      exact ⟨_, v, e2, d, r⟩
end
end Mine
open PySem PySem.W PyProof.Rows
namespace Mine
def WTs (c : Cx) (i : Ix) : List Expr → Lo → (Bool → Hp → Prop) → EX → Hp → Prop
  | [], _, Q, _, σ => Q true σ
  | [t], ρ, Q, X, σ => WT c i t ρ Q X σ
  | _, _, _, _, _ => False
def WComp (c : Cx) (i : Ix) (x : Str) (elt : Expr) (ifs : List Expr) (still : Hp → Prop) (Q : List MV → Hp → Prop) (ρ : Lo) : List MV → List MV → Hp → Prop
  | [], acc, σ => still σ ∧ Q acc σ
  | v :: vs, acc, σ => still σ ∧ WTs c i ifs (ρ.put x v) (fun b σ₁ => if b then WE c i elt (ρ.put x v) (fun u σ₂ => WComp c i x elt ifs still Q ρ vs (acc ++ [u]) σ₂) noX σ₁ else WComp c i x elt ifs still Q ρ vs acc σ₁) noX σ
theorem noX_elim {c : Cx} {f : Fm} {fr : Nat → Option Obj} {z : Shared} {ρ : Lo} {v : Value} {s : Shared} {P : Prop} (h : XPost c f fr z (noX.at ρ) v s) : P := let ⟨_, _, _, _, _, _, _, _, q⟩ := h; q.elim
section
variable {c : Cx} {i : Ix} {ρ : Lo} {σ : Hp} {f : Fm} {fr : Nat → Option Obj} {z s : Shared} {scope : Scope} {x : Str}
abbrev Ix.comp (i : Ix) (scope : Scope) : Ix := ⟨i.n, i.hn, relab scope i.sc⟩
theorem comp_code (hn : i.hn = true) {px : Pos} {elt iter : Expr} {ifs : List Expr} {pos : Pos} {I : Nat} {It : Nat → Heap → Prop} {items : List MV} {still : Hp → Prop} (T : Steps c I It items still) {Qc : List MV → Hp → Prop} {E : Value → Shared → Prop}
    (a : f.env.scope = i.sc) (b : i.hn = true → f.A.handled = none) (g : Good c i.n f fr) (R : c.Rel f ρ σ fr z s) (ok : CompOk scope f.env.scope x) (h0 : ρ (".0" : Str) = none) {h₂ : Heap} (kp : ∀ b o, s.heap.get? b = some o → h₂.get? b = some o)
    (hI : s.heap.objs.size ≤ I) (hI2 : I < h₂.objs.size) (hz : items.length ≤ 1000000) (it : It 0 h₂) (h : WComp c (i.comp scope) x elt ifs still Qc ρ items [] σ) {RR : Value → Nat → Result → Shared → Prop}
    (hRR : ∀ D C vs σ' its k m s', c.Rel f ρ σ' fr z s' → s'.heap.get? D = some (listOf its k) → All2 MV.Is vs its.toList → Alien f σ' fr D → Alien f σ' fr C → D ≠ C → s'.heap.Ns C m → Qc vs σ' → RR (.ref D) C (.ok .next) s') :
    wpAny c.M f.A (newList []) (fun acc s₃ => wpAny c.M f.A (newFunctionEnv scope f.env.globals (closOf scope.names f.env.cells []) [] f.env.qual none .none (some f.env)) (fun cenv s₄ =>
      codeAny c.M f.A (.compStart (.ListComp elt [⟨.Name x px, iter, ifs, 0⟩] scope pos) 0 (.ref I) acc { cenv with scope := relabel scope f.env }) (RR acc cenv.locals) s₄) E s₃) E { s with heap := h₂ } := by
  refine wpAny_newObj_type (wpAny_newFunctionEnv ok.nocell (by intro y hy; simp at hy) (fun h₁ hns₁ hsb₁ => ?_) ok.kind)
  dsimp only at hns₁ hsb₁ ⊢
  generalize hH2 : h₂.push { cls := .type "list", dict := none, data := .seq ([] : List Value).toArray } = H2 at hns₁ hsb₁ ⊢
  have hsz : s.heap.objs.size < h₂.objs.size := Nat.lt_of_le_of_lt hI hI2
  generalize hD : h₂.objs.size = D at *
  have hDs : s.heap.objs.size ≤ D := Nat.le_of_lt hsz
  have hCeq : H2.objs.size = D + 1 := by rw [← hH2, Heap.size_push, hD]
  generalize hCC : H2.objs.size = C at *
  have hDC : D ≠ C := by rw [hCeq]; exact (Nat.succ_ne_self D).symm
  have hCs : s.heap.objs.size ≤ C := by rw [hCeq]; exact Nat.le_succ_of_le hDs
  have old : ∀ b o, h₂.get? b = some o → h₁.get? b = some o := fun b o e => (hsb₁.2 b (by have h5 : b < D := hD ▸ Heap.lt_size e; have h6 : b < C := (by rw [hCeq]; exact Nat.lt_succ_of_lt h5); exact Nat.ne_of_lt h6)).trans (Heap.get?_push_of_some _ (hH2 ▸ Heap.get?_push_of_some _ e))
  have hacc : h₁.get? D = some (listOf #[] 0) := (hsb₁.2 D (by show D ≠ C; exact hDC)).trans (Heap.get?_push_of_some _ (by rw [← hH2, ← hD]; exact Heap.get?_push_size _ rfl))
  have G' := compFm_good g R ok hCs
  have R0 : c.Rel (compFm f scope C) (fun y => if y = x then none else ρ y) σ (restC σ s (closOf scope.names f.env.cells [])) z { s with heap := h₁, toks := s.toks + ([] : List (Str × Value)).length } := compFm_rel g R ok h0 hCs (fun b o e => old b o (kp b o e)) hns₁
  have frN : ∀ a, s.heap.objs.size ≤ a → restC σ s (closOf scope.names f.env.cells []) a = none := fun a ha => restC_none ha
  have nsl : ∀ a, s.heap.objs.size ≤ a → a ∉ (compFm f scope C).slotted := fun a ha h => by obtain ⟨o, e⟩ := G'.slotIn a h; rw [frN a ha] at e; cases e
  have clt : ∀ y k, (y, k) ∈ (compFm f scope C).env.cells → k < s.heap.objs.size := fun y k hy => R.cel_lt (clos_mem g ok hy).1
  have mkAl : ∀ {σ' : Hp} {a : Nat}, s.heap.objs.size ≤ a → a ≠ C → ¬ Foot σ' a → Alien (compFm f scope C) σ' (restC σ s (closOf scope.names f.env.cells [])) a := fun ha hc hf =>
    ⟨frN _ ha, hf, hc, fun y k hy q => by have h7 := clt y k hy; rw [← q] at h7; exact absurd h7 (Nat.not_lt.mpr ha)⟩
  have hIC : I ≠ C := by rw [hCeq]; exact Nat.ne_of_lt (Nat.lt_succ_of_lt hI2)
  have hID : I ≠ D := Nat.ne_of_lt hI2
  have sc' : (compFm f scope C).env.scope = (i.comp scope).sc := by show relabel scope f.env = relab scope i.sc; rw [← a]; rfl
  have hxl : (i.comp scope).sc.names.lookup x = some .local := by rw [← sc']; exact lookup_relabel_local ok.x
  have loop : codeAny c.M f.A (.compLoop (.ListComp elt [⟨.Name x px, iter, ifs, 0⟩] scope pos) 0 (.ref I) (.ref D) (compFm f scope C).env) (RR (.ref D) C) { s with heap := h₁, toks := s.toks + ([] : List (Str × Value)).length } := by
    refine codeAny_compLoop_tests (fun m s' => ∃ j ρ' σ' vs its k, m + j = items.length ∧ It j s'.heap ∧ c.Rel (compFm f scope C) ρ' σ' (restC σ s (closOf scope.names f.env.cells [])) z s' ∧ (∀ y, y ≠ x → ρ' y = ρ y) ∧ ¬ Foot σ' I ∧ ¬ Foot σ' D ∧
      s'.heap.get? D = some (listOf its k) ∧ All2 MV.Is vs its.toList ∧ its.size ≤ j ∧ WComp c (i.comp scope) x elt ifs still Qc ρ (items.drop j) vs σ') ?_ items.length
      ⟨0, _, σ, [], #[], 0, by simp, T.move _ _ _ it fun o e => old _ _ e, R0, fun y hy => if_neg hy, fun hf => absurd (R.foot_lt hf) (Nat.not_lt.mpr hI), fun hf => absurd (R.foot_lt hf) (Nat.not_lt.mpr hDs), hacc, .nil, Nat.zero_le _, by simpa using h⟩
    rintro m s' ⟨j, ρ', σ', vs, its, k, hmj, it', R', hρ, fI, fD, hl, hv, hits, h'⟩
    have alI := mkAl hI hIC fI
    have alD := mkAl hDs hDC fD
    cases e : items[j]? with
    | none =>
      have el : items.drop j = [] := by rw [List.drop_eq_nil_iff]; exact List.getElem?_eq_none_iff.mp e
      rw [el] at h'
      refine T.done R' (b hn) h'.1 it' e fun h₃ tk k₃ => ?_
      have R3 := R'.alien (tk := tk) alI (Alien.none G' R' alI) k₃
      obtain ⟨m', hn', _⟩ := R3.ns
      have fC : ¬ Foot σ' C := fun hf => (R3.apart C hf).2.1 rfl
      exact hRR D C vs σ' its k m' _ (Rel.backC g R ok R3 hρ) (k₃ _ _ (Ne.symm hID) hl) hv (R.alienAt hDs fD) (R.alienAt hCs fC) hDC hn' h'.2
    | some v =>
      obtain ⟨hlt, rfl⟩ := List.getElem?_eq_some_iff.mp e
      rw [List.drop_eq_getElem_cons hlt] at h'
      refine T.item R' (b hn) h'.1 it' e fun u h₃ tk is it₃ k₃ => ?_
      have R3 := R'.alien (tk := tk) alI (Alien.none G' R' alI) k₃
      have hl3 : h₃.get? D = some (listOf its k) := k₃ _ _ (Ne.symm hID) hl
      obtain ⟨oI, hoI, _⟩ := T.obj _ _ it₃
      have R4 := R3.add alI hoI
      have alD4 : Alien (compFm f scope C) σ' (addFr (restC σ s (closOf scope.names f.env.cells [])) I oI) D := ⟨by rw [addFr_ne (Ne.symm hID)]; exact alD.fr, alD.foot, alD.L, alD.cells⟩
      have R5 := R4.add alD4 hl3
      have G5 := (G'.add (o := oI) alI.fr).add (o := listOf its k) alD4.fr
      have eρ : ρ'.put x items[j] = ρ.put x items[j] := by
        funext y
        unfold Lo.put
        by_cases q : y = x
        · rw [if_pos q, if_pos q]
        · rw [if_neg q, if_neg q]; exact hρ y q
      refine wpAny_assign_Name (wpAny_mono (WSt.local (i := i.comp scope) (Q := fun ρ₁ σ₁ => ρ₁ = ρ.put x items[j] ∧ σ₁ = σ') (X := noSX) hxl ⟨eρ, rfl⟩ u is (compFm f scope C) _ z _ sc' b G5 R5) (fun _ s₆ ⟨ρ₆, σ₆, R6, e1, e2⟩ => ?_) fun _ _ x => noSX_elim x)
      subst e1; subst e2
      -- back from the frames of the iterator and the list
      have out : ∀ {σ'' : Hp} {s'' : Shared}, c.Rel (compFm f scope C) (ρ.put x items[j]) σ'' (addFr (addFr (restC σ s (closOf scope.names f.env.cells [])) I oI) D (listOf its k)) z s'' →
          c.Rel (compFm f scope C) (ρ.put x items[j]) σ'' (restC σ s (closOf scope.names f.env.cells [])) z s'' ∧ Alien (compFm f scope C) σ'' (restC σ s (closOf scope.names f.env.cells [])) I ∧ Alien (compFm f scope C) σ'' (restC σ s (closOf scope.names f.env.cells [])) D ∧ s''.heap.get? I = some oI ∧ s''.heap.get? D = some (listOf its k) := fun R7 => by
        obtain ⟨R8, al8, ho8⟩ := Rel.drop alD4.fr R7 (nsl D hDs)
        obtain ⟨R9, al9, ho9⟩ := Rel.drop alI.fr R8 (nsl I hI)
        exact ⟨R9, al9, mkAl hDs hDC al8.foot, ho9, ho8⟩
      have eρ2 : ∀ y, y ≠ x → (ρ.put x items[j]) y = ρ y := fun y hy => by unfold Lo.put; rw [if_neg hy]
      have again : ∀ {σ'' : Hp} {s'' : Shared} {vs' : List MV} {its' : Array Value} {k' : Nat}, c.Rel (compFm f scope C) (ρ.put x items[j]) σ'' (restC σ s (closOf scope.names f.env.cells [])) z s'' → ¬ Foot σ'' I → ¬ Foot σ'' D → s''.heap.get? I = some oI → s''.heap.get? D = some (listOf its' k') → All2 MV.Is vs' its'.toList → its'.size ≤ j + 1 → WComp c (i.comp scope) x elt ifs still Qc ρ (items.drop (j + 1)) vs' σ'' →
          ∃ m', m' < m ∧ ∃ j ρ' σ' vs its k, m' + j = items.length ∧ It j s''.heap ∧ c.Rel (compFm f scope C) ρ' σ' (restC σ s (closOf scope.names f.env.cells [])) z s'' ∧ (∀ y, y ≠ x → ρ' y = ρ y) ∧ ¬ Foot σ' I ∧ ¬ Foot σ' D ∧
      s''.heap.get? D = some (listOf its k) ∧ All2 MV.Is vs its.toList ∧ its.size ≤ j ∧ WComp c (i.comp scope) x elt ifs still Qc ρ (items.drop j) vs σ' := fun R9 f1 f2 o1 o2 hv' hz' hw => by
        refine ⟨m - 1, by omega, j + 1, _, _, _, _, _, by omega, T.move _ _ _ it₃ fun o' e' => ?_, R9, eρ2, f1, f2, o2, hv', hz', hw⟩
        rw [hoI] at e'; cases e'; exact o1
      have tests : ∀ {Qt : Bool → Hp → Prop} {s₆ : Shared}, c.Rel (compFm f scope C) (ρ.put x items[j]) σ₆ (addFr (addFr (restC σ s (closOf scope.names f.env.cells [])) I oI) D (listOf its k)) z s₆ → WTs c (i.comp scope) ifs (ρ.put x items[j]) Qt noX σ₆ → ∀ E', wpAny c.M f.A (forIn ifs true fun c r => if r = true then do let ok ← isTrue c (compFm f scope C).env (eval c (compFm f scope C).env); pure (ForInStep.yield ok) else pure (ForInStep.yield r))
          (fun ok s₇ => ∃ σ₇, c.Rel (compFm f scope C) (ρ.put x items[j]) σ₇ (addFr (addFr (restC σ s (closOf scope.names f.env.cells [])) I oI) D (listOf its k)) z s₇ ∧ Qt ok σ₇) E' s₆ := fun R6 ht E' => by
        rcases ifs with _ | ⟨t, _ | ⟨t', r⟩⟩
        · exact wpAny_tests_nil ⟨_, R6, ht⟩
        · refine wpAny_tests_one (wuse (ht (compFm f scope C) _ z _ sc' b G5 R6) (fun bb s₇ b' σ₇ eb R7 hq => ?_) fun _ _ x => noX_elim x)
          subst eb
          exact ⟨σ₇, R7, hq⟩
        · exact ht.elim
      refine wpAny_mono (tests R6 h'.2 _) (fun okb s₇ ⟨σ₇, R7, hq⟩ => ?_) fun _ _ x => x
      cases okb with
      | false =>
        rw [if_neg Bool.false_ne_true] at hq ⊢
        obtain ⟨R9, al9, al8, ho9, ho8⟩ := out R7
        exact again R9 al9.foot al8.foot ho9 ho8 hv (Nat.le_succ_of_le hits) hq
      | true =>
        rw [if_pos rfl] at hq ⊢
        refine wuse (hq (compFm f scope C) _ z _ sc' b G5 R7) (fun y s₈ ym σ₈ isy R8 hq8 => ?_) fun _ _ x => noX_elim x
        obtain ⟨R9, al9, al8, ho9, ho8⟩ := out R8
        refine append_at ho8 (fun h₉ hs₉ hl₉ => ?_) (size_ok (by omega))
        have R10 := R9.alien (tk := s₈.toks) al8 (Alien.none G' R9 al8) (h' := h₉) fun a o ne e => (hs₉.2 a ne).trans e
        refine again R10 al9.foot al8.foot ((hs₉.2 I hID).trans ho9) hl₉ ?_ (by rw [Array.size_push]; omega) hq8
        rw [Array.toList_push]
        exact hv.append (.cons isy .nil)
  exact codeAny_compStart_list loop (T.self (k := 0) (T.move _ _ _ it fun o e => old _ _ e) loop)
theorem Rel.adopt (R : c.Rel f ρ σ fr z s) {D : Nat} {its : Array Value} {k : Nat} {vs : List MV} (t : Nat) (al : Alien f σ fr D) (ho : s.heap.get? D = some (listOf its k)) (hv : All2 MV.Is vs its.toList) : c.Rel f ρ (σ.put D t (.list vs)) fr z s where
  same := R.same
  keep := R.keep
  objs := fun a t' mo e => by
    by_cases q : a = D
    · subst q; rw [Hp.put_self] at e; cases e; exact ⟨its, k, ho, hv⟩
    · rw [Hp.put_ne _ _ _ q] at e; exact R.objs a t' mo e
  wf := fun a t' C fs e => by
    by_cases q : a + 1 = D
    · rw [q, Hp.put_self] at e; cases e
    · rw [Hp.put_ne _ _ _ q] at e
      by_cases q' : a = D
      · subst q'; exact absurd (.inr ⟨_, _, _, e⟩) al.foot
      · rw [Hp.put_ne _ _ _ q']; exact R.wf a t' C fs e
  apart := fun a fa => by
    by_cases q : a = D
    · subst q; exact ⟨al.fr, al.L, al.cells⟩
    · refine R.apart a ?_
      rcases fa with ⟨t₁, mo₁, fa, fk⟩ | ⟨t₁, C, fs, e⟩
      · rw [Hp.put_ne _ _ _ q] at fa; exact .of_some fa fk
      · by_cases q' : a + 1 = D
        · rw [q', Hp.put_self] at e; cases e
        · rw [Hp.put_ne _ _ _ q'] at e; exact .inr ⟨_, _, _, e⟩
  ns := R.ns
  cel := R.cel
  frame := R.frame
  kl := fun a t' xs o e => by
    by_cases q : a = D
    · subst q; rw [Hp.put_self] at e; cases e
    · rw [Hp.put_ne _ _ _ q] at e; exact R.kl a t' xs o e
theorem Alien.sigma {n : Nat} (g : Good c n f fr) (R : c.Rel f ρ σ fr z s) {D : Nat} (al : Alien f σ fr D) : σ D = Option.none := by
  cases e : σ D with
  | none => rfl
  | some p => exact absurd e (Alien.none g R al p.1 p.2)
variable {X : EX}
theorem CompOk.names (ok : CompOk scope i.sc x) (hd0 : scope.names.lookup (".0" : Str) = some .local ∨ ∀ y ∈ scope.names, y.1 ≠ (".0" : Str)) : ∀ y ∈ scope.names, y.2 = .local → scope.names.lookup y.1 = some .local := fun y hy e => by
  rcases ok.loc y hy e with q | q
  · rw [q]; exact ok.x
  · rcases hd0 with h | h
    · rw [q]; exact h
    · exact absurd q (h y hy)
theorem CompOk.clos (ok : CompOk scope f.env.scope x) {n : Nat} (g : Good c n f fr) : closureFor scope f.env = pure (closOf scope.names f.env.cells []) := closureFor_eq fun p hp e => g.celled p.1 (ok.free p hp e).1
theorem WE.comp {px : Pos} {elt iter : Expr} {ifs : List Expr} {pos : Pos} {Q : MV → Hp → Prop} (t : Nat) (hn : i.hn = true) (hs : NotSet iter) (hok : compOk scope i.sc x = true) (h0 : ρ (".0" : Str) = Option.none)
    (h : WE c i iter ρ (fun v σ₁ => ∃ xs still, Iterable σ₁ v xs still ∧ xs.length ≤ 1000000 ∧ WComp c (i.comp scope) x elt ifs still (fun vs σ₂ => ∀ D, σ₂ D = Option.none → Q (.ref D) (σ₂.put D t (.list vs))) ρ xs [] σ₁) X σ) :
    WE c i (.ListComp elt [⟨.Name x px, iter, ifs, 0⟩] scope pos) ρ Q X σ := fun f fr z s a b g R => by
  have ok : CompOk scope f.env.scope x := by rw [a]; exact compOk_of hok
  show wpAny _ _ (eval _ _) _ _ _
  rw [eval_ListComp]
  refine wpAny_comprehension_free (use := Option.none) rfl (by intro x; exact hs _ x) (ok.clos g) ok.kind (by rw [a] at ok; exact ok.names (compOk_dot hok)) (wpAny_mono (h f fr z s a b g R) (fun u s₁ ⟨v, σ₁, is, R₁, xs, still, itb, hz, h₁⟩ => ?_) fun _ _ x => x)
  refine iter_start R₁ itb is fun I It h₂ T hI hI2 kp it => ?_
  refine comp_code hn T a b g R₁ ok h0 kp hI hI2 hz it h₁ (RR := fun acc C => compPost _ _ _ Option.none _ acc C) ?_
  intro D C vs σ' its k m s' R' hD hv alD alC hDC hnC hQ
  refine ⟨m, hnC, fun h' hs' => ?_⟩
  have R'' := R'.alien (tk := s'.toks) alC (Alien.none g R' alC) (h' := h') fun a o ne e => (hs'.2 a ne).trans e
  exact ⟨.ref D, _, rfl, Rel.adopt R'' t alD ((hs'.2 D hDC).trans hD) hv, hQ D (Alien.sigma g R' alD)⟩
variable {X : SX}
theorem WS.assignComp {y : Str} {py px : Pos} {elt iter : Expr} {ifs : List Expr} {pos spos : Pos} {Q : MF → Lo → Hp → Prop} (t : Nat) (hn : i.hn = true) (hs : NotSet iter) (hok : compOk scope i.sc x = true) (h0 : ρ (".0" : Str) = Option.none)
    (hy : i.sc.names.lookup y = some .local) (hline : (py.line == pos.line && !(scope.names.any fun (n, k) => n == y && (k == .local || k == .cell))) = true)
    (h : WE c i iter ρ (fun v σ₁ => ∃ xs still, Iterable σ₁ v xs still ∧ xs.length ≤ 1000000 ∧ WComp c (i.comp scope) x elt ifs still (fun vs σ₂ => ∀ D, σ₂ D = Option.none → Q .next (ρ.put y (.ref D)) (σ₂.put D t (.list vs))) ρ xs [] σ₁) (X.ex ρ) σ) :
    WS c i (.Assign [.Name y py] (.ListComp elt [⟨.Name x px, iter, ifs, 0⟩] scope pos) spos) ρ Q X σ := fun f fr z s a b g R => by
  have ok : CompOk scope f.env.scope x := by rw [a]; exact compOk_of hok
  have hsw : swapsWith (.ListComp elt [⟨.Name x px, iter, ifs, 0⟩] scope pos) (some (.Name y py)) spos.line f.env = pure true := by
    unfold swapsWith
    have e1 : f.env.blockKind = .function := by unfold Env.blockKind; rw [g.kind]; rfl
    have e2 : f.env.kindOf y = some .local := kindAt a hy
    dsimp only
    rw [e1, e2]
    simp only [Bool.and_eq_true] at hline
    show (pure (((ScopeKind.function == ScopeKind.function) && (some NameKind.local == some NameKind.local) && (py.line == pos.line)) && _) : Sem Bool) = pure true
    rw [hline.1, hline.2]; rfl
  show wpAny _ _ (exec _ _) _ _ _
  rw [exec_Assign_Name_used _ _ _ _ hsw]
  refine wpAny_bind (wpAny_standAt (wpAny_bind ?_))
  show wpAny _ f.A (do let _ ← comprehension (.ListComp elt [⟨.Name x px, iter, ifs, 0⟩] scope pos) scope f.env _ (newList []) false (eval iter f.env) (some (PySem.assign (.Name y py) f.env))) _ _ s
  refine wpAny_bind (wpAny_mono (wpAny_comprehension_free (use := some (PySem.assign (.Name y py) f.env)) (Q := fun _ s' => ∃ m ρ' σ', MF.Is m .next ∧ c.Rel f ρ' σ' fr z s' ∧ Q m ρ' σ') rfl (by intro x; exact hs _ x) (ok.clos g) ok.kind (by rw [a] at ok; exact ok.names (compOk_dot hok))
    (wpAny_mono (h f fr z s a b g R) (fun u s₁ ⟨v, σ₁, is, R₁, xs, still, itb, hz, h₁⟩ => ?_) fun _ _ x => Ex.at x)) (fun _ s' hq => wpAny_pure (wpAny_pure hq)) fun _ _ e => e)
  refine iter_start R₁ itb is fun I It h₂ T hI hI2 kp it => ?_
  refine comp_code hn T a b g R₁ ok h0 kp hI hI2 hz it h₁ (RR := fun acc C => compPost _ _ _ (some (PySem.assign (.Name y py) f.env)) _ acc C) ?_
  intro D C vs σ' its k m s' R' hD hv alD alC hDC hnC hQ
  have R2 := Rel.adopt R' t alD hD hv
  have nC : C ∉ f.slotted := fun h => by obtain ⟨o, e⟩ := g.slotIn C h; rw [alC.fr] at e; cases e
  have alC2 : Alien f (σ'.put D t (.list vs)) fr C := ⟨alC.fr, fun hf => by
    rcases hf with ⟨t₁, mo₁, fa, fk⟩ | ⟨t₁, C', fs, e⟩
    · rw [Hp.put_ne _ _ _ (Ne.symm hDC)] at fa; exact alC.foot (.of_some fa fk)
    · by_cases q' : C + 1 = D
      · rw [q', Hp.put_self] at e; cases e
      · rw [Hp.put_ne _ _ _ q'] at e; exact alC.foot (.inr ⟨_, _, _, e⟩), alC.L, alC.cells⟩
  obtain ⟨oC, es, ep, hoC, hrC⟩ := hnC
  have R3 := R2.add alC2 hoC
  show wpAny _ _ (PySem.assign (.Name y py) f.env (.ref D)) _ _ _
  refine wpAny_assign_Name (wpAny_mono (WSt.local (X := noSX) (Q := fun ρ₁ σ₁ => ρ₁ = ρ.put y (.ref D) ∧ σ₁ = σ'.put D t (.list vs)) hy ⟨rfl, rfl⟩ (.ref D) rfl f _ z _ a b (g.add alC.fr) R3) (fun _ s₆ ⟨ρ₆, σ₆, R6, e1, e2⟩ => ?_) fun _ _ x => noSX_elim x)
  subst e1; subst e2
  obtain ⟨R7, al7, ho7⟩ := Rel.drop alC.fr R6 nC
  refine ⟨m, ⟨oC, es, ep, ho7, hrC⟩, fun h' hs' => ?_⟩
  have R8 := R7.alien (tk := s₆.toks) al7 (Alien.none g R7 al7) (h' := h') fun a o ne e => (hs'.2 a ne).trans e
  exact ⟨.next, _, _, rfl, R8, hQ D (Alien.sigma g R' alD)⟩
end
end Mine
open PySem PySem.W PyProof.Rows
namespace Mine
theorem cellsFrom_gt : ∀ (names : List (Str × NameKind)) (n : Nat) (acc : List (Str × Nat)) (lo : Nat), lo < n → (∀ p ∈ acc, lo < p.2) → ∀ p ∈ cellsFrom n names acc, lo < p.2 := by
  intro names
  induction names with
  | nil => intro n acc lo _ h; exact h
  | cons q r ih =>
    obtain ⟨y, k⟩ := q
    intro n acc lo hlo h
    unfold cellsFrom
    by_cases hk : (k == .cell) = true
    · rw [if_pos hk]
      refine ih (n + 1) _ lo (by omega) fun p hp => ?_
      rcases List.mem_cons.mp hp with rfl | hp
      · exact hlo
      · exact h p hp
    · rw [if_neg hk]; exact ih n acc lo hlo h
def lawHp (l : Nat) (ns : List Int) (o : Obj) : Hp := fun a => if a = l then some (0, .klist (ns.map .int) o) else none
theorem ints_all2 {vs : List Value} {ns : List Int} (h : IntsAre vs ns) : All2 MV.Is (ns.map .int) vs := by
  induction h with
  | nil => exact .nil
  | cons t ts _ ih => exact .cons ⟨_, rfl⟩ ih
def lawFm (name : Str) (scope : Scope) (L fa : Nat) (cd : Value) (h : Heap) : Fm where
  A := callerA.deeper (envOfC name scope L fa cd)
  env := envOfC name scope L fa cd
  top := envOfC name scope L fa cd
  outer := []
  slotted := []
  base := h
theorem law_enter {c : Cx} (ok : CxOk c) {s₁ : Shared} {fa : Nat} {o : Obj} {name : Str} {params : Arguments} {body : List Stmt} {scope : Scope} {p : Str} {pm cd doc dV kV : Value} (ho : s₁.heap.get? fa = some o)
    (hd : o.data = .func { Calls.docDef name params body scope pm cd doc with defaults := dV, kwdefaults := kV }) (hcd : s₁.heap.CodeRec cd name) (KX : c.K.In s₁.heap) (T : Top c.p c.loose c.mean c.mg c.mb s₁.heap)
    (hbind : ∀ u : Value, bindArgs { Calls.docDef name params body scope pm cd doc with defaults := dV, kwdefaults := kV } ⟨[u], []⟩ = pure [(p, u)]) (hs : scopeOk scope [p] = true) {l : Nat} {vs : List Value} {ns : List Int} (hL : s₁.heap.IsList l vs.toArray) (hI : IntsAre vs ns)
    (h : ∀ ol, WSs c ⟨200, true, scope⟩ body (bindLo [p] [.ref l] fun _ => none) (fun m _ _ => m = .ret (.bool true)) noSX (lawHp l ns ol)) {P : Result → Shared → Prop}
    (hP : ∀ s', (∀ b o, s₁.heap.get? b = some o → s'.heap.get? b = some o) → s'.os = s₁.os → s'.gens = s₁.gens → P (.ok (.ret (.bool true))) s') : codeAny c.M callerA (.call (.ref fa) ⟨[.ref l], []⟩) P s₁ := by
  obtain ⟨hk, hco, hgen, hps, hcl, hnd⟩ := scopeOk_of hs
  obtain ⟨ol, hol, hlc, nl, hld⟩ := hL
  refine codeAny_call_function (by decide) ho hd hco hgen rfl hcd ?_
  rw [hbind (.ref l)]
  refine wpAny_pure ?_
  refine wpAny_newFunctionEnv_cells hk (fun x hx => ?_) fun env' he s' x => ?_
  · rw [List.mem_singleton] at hx
    subst hx
    exact (hps p (.head _)).imp id fun q => ⟨q, cellsFrom_some _ _ _ (.inl q)⟩
  · subst he
    refine ⟨T.nolimit.keeps x.toInCall.keep, codeAny_func ?_⟩
    have nm := cellsFrom_names scope.names 0 (s₁.heap.objs.size + 1) [] [] rfl
    have hk₁ := x.toInCall.keep
    have cellk : ∀ y k, (y, k) ∈ cellsFrom (s₁.heap.objs.size + 1) scope.names [] → scope.names.lookup y ≠ some .local := fun y k hx => by
      have : y ∈ (cellsFrom 0 scope.names []).map (·.1) := by rw [nm]; exact List.mem_map.mpr ⟨_, hx, rfl⟩
      obtain ⟨p, hp, rfl⟩ := List.mem_map.mp this
      exact hcl p hp
    have above : ∀ y k, (y, k) ∈ cellsFrom (s₁.heap.objs.size + 1) scope.names [] → s₁.heap.objs.size < k := fun y k hx => cellsFrom_gt scope.names _ [] _ (by omega) (fun _ h => nomatch h) (y, k) hx
    have noBase : s₁.heap.get? s₁.heap.objs.size = none := by
      cases e : s₁.heap.get? s₁.heap.objs.size with
      | none => rfl
      | some o => exact absurd (Heap.lt_size e) (Nat.lt_irrefl _)
    have G : Good c 200 (lawFm name scope s₁.heap.objs.size fa cd s₁.heap) s₁.heap.get? := {
      ok := ok
      base := fun a o e => e
      apart := fun a ha => nomatch ha
      K := KX
      top := T
      kind := hk
      globals := rfl
      celled := fun y hy => cellsFrom_some _ _ _ (.inl hy)
      cellk := cellk
      cellnd := ⟨cellsFrom_lt _ _ _ (fun _ h => nomatch h) (by simp), by show ((cellsFrom (s₁.heap.objs.size + 1) scope.names []).map (·.1)).Nodup; rw [← nm]; exact hnd, fun y k hy q => by
        have := above y k hy
        rw [show k = s₁.heap.objs.size from q] at this
        exact Nat.lt_irrefl _ this⟩
      builtins := rfl
      room := by show callerA.depth + 1 + 2 * 200 < recursionLimit; decide
      units := by show callerA.units + 3 + 40 * 200 < cLine; decide
      frames := rfl
      topk := ⟨hk, rfl, rfl, hgen, hco⟩
      low := modules_low T.nolimit
      slots := fun a ha => by
        obtain ⟨env, he, hf⟩ := List.mem_filterMap.mp ha
        rcases List.mem_cons.mp he with rfl | he
        · left; cases hf; rfl
        · cases he
      topL := ⟨s₁.heap.objs.size, rfl, .inl rfl, noBase⟩
      slotIn := fun a ha => nomatch ha
      home := rfl
      outer := fun env he => nomatch he }
    obtain ⟨h₁, tk, rfl⟩ := x.toInCall.same
    have lay : ∀ a t mo, lawHp l ns ol a = some (t, mo) → a = l ∧ mo = .klist (ns.map .int) ol := fun a t mo e => by
      unfold lawHp at e
      split at e
      · cases e; exact ⟨by assumption, rfl⟩
      · cases e
    have noFoot : ∀ a, ¬ Foot (lawHp l ns ol) a := fun a hf => by
      rcases hf with ⟨t, mo, e, q⟩ | ⟨t, C, fs, e⟩
      · rw [(lay _ _ _ e).2] at q; cases q
      · have := (lay _ _ _ e).2; cases this
    have R : c.Rel (lawFm name scope s₁.heap.objs.size fa cd s₁.heap) (bindLo [p] [.ref l] fun _ => none) (lawHp l ns ol) s₁.heap.get? s₁ { s₁ with heap := h₁, toks := tk } := {
      same := ⟨rfl, rfl, rfl⟩
      keep := fun a o e => ⟨o.slots, hk₁ a o e, fun _ => rfl⟩
      objs := fun a t mo e => by
        obtain ⟨rfl, rfl⟩ := lay a t mo e
        exact ⟨hk₁ _ _ hol, hlc, _, nl, hld, by simpa using ints_all2 hI⟩
      wf := fun a t C fs e => by have := (lay _ _ _ e).2; cases this
      apart := fun a hf => absurd hf (noFoot a)
      ns := ⟨_, x.toInCall.ns, fun y hy => bindLo_local (ps := [p]) (as := [.ref l]) (us := [.ref l]) hy (.cons (show MV.Is (.ref l) (.ref l) from rfl) .nil) trivial⟩
      cel := fun y k hy => by
        obtain ⟨o, ho, hd⟩ := x.cell y k (lookup_of_mem_nodup (nm ▸ hnd) hy)
        exact ⟨o, _, ho, hd, bindLo_cell (ps := [p]) (as := [.ref l]) (us := [.ref l]) (cellk y k hy) (.cons (show MV.Is (.ref l) (.ref l) from rfl) .nil) trivial⟩
      frame := ⟨noBase, fun y k hy => ⟨by
        cases e : s₁.heap.get? k with
        | none => rfl
        | some o => exact absurd (Nat.lt_trans (above y k hy) (Heap.lt_size e)) (Nat.lt_irrefl _), fun q => by
        have := above y k hy
        rw [show k = s₁.heap.objs.size from q] at this
        exact Nat.lt_irrefl _ this⟩⟩
      kl := fun a t xs o e => by
        obtain ⟨rfl, q⟩ := lay _ _ _ e
        cases q
        exact hol }
    refine wuse6 (h ol (lawFm name scope s₁.heap.objs.size fa cd s₁.heap) _ s₁ _ rfl (fun _ => rfl) G R) (fun fl s'' m ρ' σ' is R'' q => ?_) fun e s'' hx => noSX_elim hx
    subst q
    obtain ⟨u, rfl, is⟩ := is
    cases is
    refine hP s'' (fun b o e => ?_) R''.same.2.2 R''.same.1
    obtain ⟨sl, e1, e2⟩ := R''.keep b o e
    rw [e1, e2 fun hm => nomatch hm]
end Mine
open PySem PySem.W PyProof.Rows
namespace Mine
set_option genInjectivity false in
structure Tab where
  glob : List (Str × MV)
  meth : List ((Nat × Str) × Nat)
  fld : List (Nat × Str)
  init : List (Nat × Nat)
  fns : List Nat
theorem lookup_mem {α β : Type} [BEq α] [LawfulBEq α] {l : List (α × β)} {x : α} {a : β} (h : l.lookup x = some a) : (x, a) ∈ l := by
  induction l with
  | nil => cases h
  | cons p r ih =>
    obtain ⟨y, b⟩ := p
    rw [List.lookup_cons] at h
    cases hy : (x == y) with
    | true => rw [hy] at h; cases h; rw [beq_iff_eq.mp hy]; exact .head _
    | false => rw [hy] at h; exact .tail _ (ih h)
def Tab.cx (t : Tab) (prog : Program) (w : World) (K : Frag) (p : Program) (loose : List Str) (mean : ExcName → Option Value) (mg mb : Str → Option Value) : Cx where
  prog := prog
  w := w
  K := K
  p := p
  loose := loose
  mean := mean
  mg := mg
  mb := mb
  glob := fun x => t.glob.lookup x
  meth := fun C x => t.meth.lookup (C, x)
  fld := fun C x => t.fld.contains (C, x)
  init := fun C => t.init.lookup C
  fns := fun a => t.fns.contains a
def methOk (K : Frag) (C : Nat) (x : Str) (a : Nat) : Prop := plainGet K C x = true ∧ findIn K (.ref C) x = some (some (.ref a)) ∧ isFn K (.ref a) = true ∧ keepIn K (.ref a) = true
def fldOk (K : Frag) (C : Nat) (x : Str) : Prop := plainGet K C x = true ∧ hasDictIn K C = true ∧ findIn K (.ref C) x = some none ∧ findIn K (.ref C) "__setattr__" = some (some (.builtin "object.__setattr__")) ∧ plainOver K C = true ∧ takerIn K C x = some none
def initOk (K : Frag) (C a : Nat) : Prop := makesIn K C = true ∧ findIn K (.ref C) "__init__" = some (some (.ref a)) ∧ isFn K (.ref a) = true ∧ keepIn K (.ref C) = true
def globOk (K : Frag) (x : Str) (v : MV) : Prop := (x == ("__debug__" : Str)) = false ∧ ((∃ u, nsIn K mainGlobals x = some (some u) ∧ v.Is u) ∨ (nsIn K mainGlobals x = some none ∧ x ≠ "__name__" ∧ ∃ u, bootBuiltins x = some u ∧ v.Is u))
theorem Tab.ok {t : Tab} {prog : Program} {w : World} {K : Frag} {p : Program} {loose : List Str} {mean : ExcName → Option Value} {mg mb : Str → Option Value}
    (hg : ∀ q ∈ t.glob, globOk K q.1 q.2) (hm : ∀ q ∈ t.meth, methOk K q.1.1 q.1.2 q.2) (hf : ∀ q ∈ t.fld, fldOk K q.1 q.2) (hi : ∀ q ∈ t.init, initOk K q.1 q.2) (hn : ∀ a ∈ t.fns, keepIn K (.ref a) = true) : CxOk (t.cx prog w K p loose mean mg mb) where
  glob := fun x v h => hg (x, v) (mem_lookup h)
  meth := fun C x a h => hm ((C, x), a) (lookup_mem h)
  fld := fun C x h => hf (C, x) (List.contains_iff_mem.mp h)
  init := fun C a h => hi (C, a) (lookup_mem h)
  fns := fun a h => hn a (List.contains_iff_mem.mp h)
theorem all_nil {α : Type} {P : α → Prop} : ∀ q ∈ ([] : List α), P q := fun _ h => nomatch h
theorem all_cons {α : Type} {P : α → Prop} {a : α} {l : List α} (h : P a) (t : ∀ q ∈ l, P q) : ∀ q ∈ a :: l, P q := fun q hq => by
  rcases List.mem_cons.mp hq with rfl | hq
  · exact h
  · exact t q hq
theorem globRef {K : Frag} {x : Str} {a : Nat} (h0 : (x == ("__debug__" : Str)) = false) (h : nsIn K mainGlobals x = some (some (.ref a))) : globOk K x (.ref a) := ⟨h0, .inl ⟨_, h, rfl⟩⟩
theorem globInt {K : Frag} {x : Str} {n : Int} {t : Tok} (h0 : (x == ("__debug__" : Str)) = false) (h : nsIn K mainGlobals x = some (some (.int n t))) : globOk K x (.int n) := ⟨h0, .inl ⟨_, h, t, rfl⟩⟩
theorem globStr {K : Frag} {x : Str} {n : Str} {t : Tok} (h0 : (x == ("__debug__" : Str)) = false) (h : nsIn K mainGlobals x = some (some (.str n t))) : globOk K x (.str n) := ⟨h0, .inl ⟨_, h, t, rfl⟩⟩
theorem globBuiltin {K : Frag} {x : Str} {u : Value} (h0 : (x == ("__debug__" : Str)) = false) (h : nsIn K mainGlobals x = some none) (h1 : x ≠ "__name__") (h2 : bootBuiltins x = some u) : globOk K x (.con u) := ⟨h0, .inr ⟨h, h1, u, h2, rfl⟩⟩
theorem Lo.put_self {ρ : Lo} {x : Str} {v : MV} : (ρ.put x v) x = some v := by simp [Lo.put]
theorem Lo.put_ne {ρ : Lo} {x y : Str} {v : MV} {r : Option MV} (h : (y == x) = false) (e : ρ y = r) : (ρ.put x v) y = r := by
  rw [beq_eq_false_iff_ne] at h
  simp [Lo.put, h, e]
theorem Hp.self {σ : Hp} {a t : Nat} {o : MO} : (σ.put a t o) a = some (t, o) := Hp.put_self ..
theorem Hp.ne {σ : Hp} {a b t : Nat} {o : MO} {r : Option (Nat × MO)} (h : b ≠ a) (e : σ b = r) : (σ.put a t o) b = r := by rw [Hp.put_ne _ _ _ h]; exact e
theorem us0 {P : List Value → Prop} (h : P []) (us : List Value) (hl : us.length = 0) : P us := by
  rw [List.eq_nil_of_length_eq_zero hl]; exact h
theorem usS {k : Nat} {P : List Value → Prop} (h : ∀ u (us : List Value), us.length = k → P (u :: us)) (us : List Value) (hl : us.length = k + 1) : P us := by
  cases us with
  | nil => exact absurd hl (Nat.succ_ne_zero k).symm
  | cons u t => exact h u t (Nat.succ.inj hl)
theorem us1 {P : List Value → Prop} (h : ∀ u, P [u]) : ∀ us : List Value, us.length = 1 → P us := usS fun u => us0 (h u)
theorem us2 {P : List Value → Prop} (h : ∀ u v, P [u, v]) : ∀ us : List Value, us.length = 2 → P us := usS fun u => us1 (h u)
theorem us3 {P : List Value → Prop} (h : ∀ u v w, P [u, v, w]) : ∀ us : List Value, us.length = 3 → P us := usS fun u => us2 (h u)
theorem us4 {P : List Value → Prop} (h : ∀ u v w x, P [u, v, w, x]) : ∀ us : List Value, us.length = 4 → P us := usS fun u => us3 (h u)
theorem us5 {P : List Value → Prop} (h : ∀ u v w x y, P [u, v, w, x, y]) : ∀ us : List Value, us.length = 5 → P us := usS fun u => us4 (h u)
end Mine
open PySem PySem.W PyProof.Rows
namespace Mine
abbrev ρ0 : Lo := fun _ => none
section
variable {c : Cx} {n : Nat} {hn : Bool} {sc : Scope} {a : Nat} {body : List Stmt} {scope : Scope} {ρ : Lo} {Q : MV → Hp → Prop} {X : EX} {σ : Hp} {p1 p2 p3 p4 p5 p6 p7 : Str} {a1 a2 a3 a4 a5 a6 a7 : MV}
theorem WFn.fn1 (F : FnAt c a [p1] body scope) (h : WSs c ⟨n, hn, scope⟩ body (ρ0.put p1 a1) (fun m _ σ' => Q m.val σ') noSX σ) : WFn c ⟨n + 1, hn, sc⟩ a [a1] ρ Q X σ := WFn.fn F rfl h
theorem WFn.fn2 (F : FnAt c a [p1, p2] body scope) (h : WSs c ⟨n, hn, scope⟩ body ((ρ0.put p1 a1).put p2 a2) (fun m _ σ' => Q m.val σ') noSX σ) : WFn c ⟨n + 1, hn, sc⟩ a [a1, a2] ρ Q X σ := WFn.fn F rfl h
theorem WFn.fn3 (F : FnAt c a [p1, p2, p3] body scope) (h : WSs c ⟨n, hn, scope⟩ body (((ρ0.put p1 a1).put p2 a2).put p3 a3) (fun m _ σ' => Q m.val σ') noSX σ) : WFn c ⟨n + 1, hn, sc⟩ a [a1, a2, a3] ρ Q X σ := WFn.fn F rfl h
theorem WFn.fn4 (F : FnAt c a [p1, p2, p3, p4] body scope) (h : WSs c ⟨n, hn, scope⟩ body ((((ρ0.put p1 a1).put p2 a2).put p3 a3).put p4 a4) (fun m _ σ' => Q m.val σ') noSX σ) : WFn c ⟨n + 1, hn, sc⟩ a [a1, a2, a3, a4] ρ Q X σ := WFn.fn F rfl h
theorem WFn.fn5 (F : FnAt c a [p1, p2, p3, p4, p5] body scope) (h : WSs c ⟨n, hn, scope⟩ body (((((ρ0.put p1 a1).put p2 a2).put p3 a3).put p4 a4).put p5 a5) (fun m _ σ' => Q m.val σ') noSX σ) : WFn c ⟨n + 1, hn, sc⟩ a [a1, a2, a3, a4, a5] ρ Q X σ := WFn.fn F rfl h
end
theorem lk_head {α : Type} {x : Str} {v : α} {r : List (Str × α)} : ((x, v) :: r).lookup x = some v := by simp [List.lookup_cons]
theorem lk_tail {α : Type} {x y : Str} {v : α} {r : List (Str × α)} {o : Option α} (h : (x == y) = false) (e : r.lookup x = o) : ((y, v) :: r).lookup x = o := by rw [List.lookup_cons, h]; exact e
section
variable {c : Cx} {i : Ix} {ρ : Lo} {σ : Hp} {X : EX}
theorem WSet.inst' {a t C : Nat} {name : Str} {fs fs' : List (Str × MV)} {v : MV} {Q : Unit → Hp → Prop} (e : σ a = some (t, .inst C fs)) (hf : c.fld C name = true) (hp : putF name v fs = fs') (hl : fs.length < 900) (h : Q () (σ.put a t (.inst C fs'))) : WSet c i (.ref a) name v ρ Q X σ := WSet.inst e hf hl (by rw [hp]; exact h)
end
section
variable {c : Cx} {n : Nat} {hn : Bool} {sc : Scope} {ρ : Lo} {σ : Hp}
theorem WE.localA {X : EX} {Q : MV → Hp → Prop} {x pos v} (hl : sc.names.lookup x = some .local) (hd : (x == ("__debug__" : Str)) = false) (hv : ρ x = some v) (h : Q v σ) : WE c ⟨n, hn, sc⟩ (.Name x pos) ρ Q X σ := WE.local hl hd hv h
theorem WE.cellA {X : EX} {Q : MV → Hp → Prop} {x pos v} (hl : sc.names.lookup x = some .cell) (hd : (x == ("__debug__" : Str)) = false) (hv : ρ x = some v) (h : Q v σ) : WE c ⟨n, hn, sc⟩ (.Name x pos) ρ Q X σ := WE.cell hl hd hv h
theorem WE.globalA {X : EX} {Q : MV → Hp → Prop} {x pos v} (hl : sc.names.lookup x = some .globalImplicit) (hv : c.glob x = some v) (h : Q v σ) : WE c ⟨n, hn, sc⟩ (.Name x pos) ρ Q X σ := WE.global hl hv h
theorem WSt.localA {X : SX} {x v} {Q : Lo → Hp → Prop} (hl : sc.names.lookup x = some .local) (h : Q (ρ.put x v) σ) : WSt c ⟨n, hn, sc⟩ x v ρ Q X σ := WSt.local hl h
theorem WSt.cellA {X : SX} {x v} {Q : Lo → Hp → Prop} (hl : sc.names.lookup x = some .cell) (h : Q (ρ.put x v) σ) : WSt c ⟨n, hn, sc⟩ x v ρ Q X σ := WSt.cell hl h
end
theorem if_tt {A B : Prop} (h : A) : if true = true then A else B := h
theorem if_ff {A B : Prop} (h : B) : if false = true then A else B := h
theorem if_nt {A B : Prop} (h : B) : if (!true) = true then A else B := h
theorem if_nf {A B : Prop} (h : A) : if (!false) = true then A else B := h
theorem Callee.con {c : Cx} {v : Value} (h : (match v with | .ref _ => false | _ => true) = true) : Callee c (.con v) := fun a e => by subst e; cases h
theorem Callee.fn {c : Cx} {a : Nat} (h : c.fns a = true) : Callee c (.ref a) := .inl h
theorem Callee.meth {c : Cx} {a C : Nat} {x : Str} (h : c.meth C x = some a) : Callee c (.ref a) := .inr (.inl ⟨C, x, h⟩)
theorem Callee.cls {c : Cx} {a b : Nat} (h : c.init a = some b) : Callee c (.ref a) := .inr (.inr ⟨b, h⟩)
section
variable {c : Cx} {i : Ix} {ρ : Lo} {σ : Hp} {X : SX} {Q : MF → Lo → Hp → Prop}
end
end Mine
open PySem PySem.W PyProof.Rows
namespace Mine
theorem Hp.new {σ : Hp} {a b t : Nat} {o : MO} {p : Nat × MO} (h : σ b = Option.none) (e : σ a = some p) : (σ.put b t o) a = some p :=
  Hp.ne (fun q => by rw [q, h] at e; exact nomatch e) e
theorem Hp.tag {σ : Hp} {a b t t' : Nat} {o o' q : MO} (h : σ b = some (t, q)) (ht : t' ≠ t) (e : σ a = some (t', o')) : (σ.put b t o) a = some (t', o') :=
  Hp.ne (fun q => by rw [q, h] at e; exact ht (congrArg Prod.fst (Option.some.inj e)).symm) e
structure Oth (t : Nat) (σ σ' : Hp) : Prop where
  all : ∀ a t' o, σ a = some (t', o) → t' ≠ t → σ' a = some (t', o)
theorem Oth.at {t : Nat} {σ σ' : Hp} (h : Oth t σ σ') {a t' : Nat} {o : MO} (e : σ a = some (t', o)) (n : t' ≠ t) : σ' a = some (t', o) := h.all a t' o e n
theorem Oth.refl {t : Nat} {σ : Hp} : Oth t σ σ := ⟨fun _ _ _ h _ => h⟩
theorem Oth.new {t b : Nat} {o : MO} {σ σ' : Hp} (h : Oth t σ σ') (hb : σ' b = Option.none) {t' : Nat} : Oth t σ (σ'.put b t' o) := ⟨fun _ _ _ e n => Hp.new hb (h.at e n)⟩
theorem Oth.put {t b : Nat} {o q : MO} {σ σ' : Hp} (h : Oth t σ σ') (hb : σ' b = some (t, q)) : Oth t σ (σ'.put b t o) := ⟨fun _ _ _ e n => Hp.tag hb n (h.at e n)⟩
structure Kpt (t : Nat) (σ σ' : Hp) : Prop where
  all : ∀ a o, σ a = some (t, o) → σ' a = some (t, o)
theorem Kpt.at {t : Nat} {σ σ' : Hp} (h : Kpt t σ σ') {a : Nat} {o : MO} (e : σ a = some (t, o)) : σ' a = some (t, o) := h.all a o e
theorem Kpt.new {t b : Nat} {o : MO} {σ : Hp} (hb : σ b = Option.none) {t' : Nat} : Kpt t σ (σ.put b t' o) := ⟨fun _ _ e => Hp.new hb e⟩
theorem Kpt.put {t t' b : Nat} {o q : MO} {σ : Hp} (hb : σ b = some (t', q)) (n : t ≠ t') : Kpt t σ (σ.put b t' o) := ⟨fun _ _ e => Hp.tag hb n e⟩
theorem Oth.kpt {t t' : Nat} {σ σ' : Hp} (h : Oth t σ σ') (n : t' ≠ t) : Kpt t' σ σ' := ⟨fun _ _ e => h.at e n⟩
theorem Hp.put_put {σ : Hp} {a t t' : Nat} {o o' : MO} : (σ.put a t o).put a t' o' = σ.put a t' o' := by
  funext b
  unfold Hp.put
  split <;> rfl
theorem ListAt.k {σ : Hp} {a t : Nat} {xs : List MV} {o : Obj} (h : σ a = some (t, .klist xs o)) : ListAt σ a xs := ⟨t, .inr ⟨o, h⟩⟩
section
variable {c : Cx} {i : Ix}
theorem WFor.byIdx' {x : Str} {body : List Stmt} {still : Hp → Prop} {Q : MF → Lo → Hp → Prop} {items : List MV} (Inv : Nat → Lo → Hp → Prop)
    (hs : ∀ k v ρ σ, items[k]? = some v → Inv k ρ σ → still σ ∧ WSt c i x v ρ (fun ρ₁ σ₁ => WSs c i body ρ₁ (fun m ρ₂ σ₂ => match m with
      | .next | .cont => Inv (k + 1) ρ₂ σ₂
      | .brk => Q .next ρ₂ σ₂
      | .ret u => Q (.ret u) ρ₂ σ₂) noSX σ₁) noSX σ)
    (he : ∀ ρ σ, Inv items.length ρ σ → still σ ∧ Q .next ρ σ) : ∀ (n k : Nat) (ρ : Lo) (σ : Hp), n + k = items.length → Inv k ρ σ → WFor c i x body still Q (items.drop k) ρ σ
  | 0, k, ρ, σ, hk, h => by
    rw [List.drop_eq_nil_of_le (by omega)]
    exact he ρ σ (by rw [← hk, Nat.zero_add]; exact h)
  | n + 1, k, ρ, σ, hk, h => by
    have hlt : k < items.length := by omega
    rw [List.drop_eq_getElem_cons hlt]
    obtain ⟨h1, h2⟩ := hs k _ ρ σ (List.getElem?_eq_getElem hlt) h
    refine ⟨h1, ?_⟩
    intro u hu f fr z s a b g R
    refine wpAny_mono (h2 u hu f fr z s a b g R) (fun _ s' hq => ?_) (fun _ _ hx => hx)
    obtain ⟨ρ', σ', R', hw⟩ := hq
    refine ⟨ρ', σ', R', ?_⟩
    refine S.mono hw fun m ρ₂ σ₂ hm => ?_
    cases m with
    | next => exact WFor.byIdx' Inv hs he n (k + 1) ρ₂ σ₂ (by omega) hm
    | cont => exact WFor.byIdx' Inv hs he n (k + 1) ρ₂ σ₂ (by omega) hm
    | brk => exact hm
    | ret u => exact hm
theorem WFor.byIdx {x : Str} {body : List Stmt} {still : Hp → Prop} {Q : MF → Lo → Hp → Prop} {items : List MV} {ρ : Lo} {σ : Hp} (Inv : Nat → Lo → Hp → Prop) (h0 : Inv 0 ρ σ)
    (hs : ∀ k v ρ σ, items[k]? = some v → Inv k ρ σ → still σ ∧ WSt c i x v ρ (fun ρ₁ σ₁ => WSs c i body ρ₁ (fun m ρ₂ σ₂ => match m with
      | .next | .cont => Inv (k + 1) ρ₂ σ₂
      | .brk => Q .next ρ₂ σ₂
      | .ret u => Q (.ret u) ρ₂ σ₂) noSX σ₁) noSX σ)
    (he : ∀ ρ σ, Inv items.length ρ σ → still σ ∧ Q .next ρ σ) : WFor c i x body still Q items ρ σ := by
  have := WFor.byIdx' Inv hs he items.length 0 ρ σ (by omega) h0
  simpa using this
theorem upTo_length {lo hi : Int} : (upTo lo hi).length = (hi - lo).toNat := by simp [upTo]
theorem upTo_at {lo hi : Int} {k : Nat} {v : MV} (h : (upTo lo hi)[k]? = some v) : v = .int (lo + (k : Int)) ∧ lo + (k : Int) < hi := by
  unfold upTo at h
  rw [List.getElem?_map] at h
  cases q : (List.range (hi - lo).toNat)[k]? with
  | none => rw [q] at h; simp at h
  | some j =>
    rw [q] at h
    have hlt : k < (List.range (hi - lo).toNat).length := (List.getElem?_eq_some_iff.mp q).1
    rw [List.length_range] at hlt
    rw [List.getElem?_range hlt] at q
    cases q
    cases h
    exact ⟨rfl, by omega⟩
theorem le0 {m : Int} (h : 1 ≤ m) : 0 ≤ m := Int.le_trans (by decide) h
theorem lt0 {m : Int} (h : 1 ≤ m) : 0 < m := Int.lt_of_lt_of_le (by decide) h
theorem mapLe {α : Type} {l : List α} {f : α → MV} {b : Nat} (h : l.length ≤ b) : (l.map f).length ≤ b := by rw [List.length_map]; exact h
theorem fmod_ge (a : Int) {m : Int} (h : 1 ≤ m) : 0 ≤ a.fmod m := Int.fmod_nonneg_of_pos _ (lt0 h)
theorem fmod_lt (a : Int) {m : Int} (h : 1 ≤ m) : a.fmod m < m := Int.fmod_lt_of_pos _ (lt0 h)
theorem itR {σ : Hp} {a t : Nat} {n : Int} (e : σ a = some (t, .range 0 n)) (h0 : 0 ≤ n) (h1 : n ≤ 1000000) : Iterable σ (.ref a) (upTo 0 n) (fun _ => True) := .range e (by decide) (by decide) (by omega) (by omega)
theorem WFor.upTo {x : Str} {body : List Stmt} {Q : MF → Lo → Hp → Prop} {n : Int} {ρ : Lo} {σ : Hp} (Inv : Nat → Lo → Hp → Prop) (h0 : Inv 0 ρ σ)
    (hs : ∀ (k : Nat) ρ σ, (k : Int) < n → Inv k ρ σ → WSt c i x (.int (k : Int)) ρ (fun ρ₁ σ₁ => WSs c i body ρ₁ (fun m ρ₂ σ₂ => match m with
      | .next | .cont => Inv (k + 1) ρ₂ σ₂
      | .brk => Q .next ρ₂ σ₂
      | .ret u => Q (.ret u) ρ₂ σ₂) noSX σ₁) noSX σ)
    (he : ∀ ρ σ, Inv n.toNat ρ σ → Q .next ρ σ) : WFor c i x body (fun _ => True) Q (upTo 0 n) ρ σ := by
  refine WFor.byIdx Inv h0 (fun k v ρ σ hv hI => ⟨trivial, ?_⟩) fun ρ σ h => ⟨trivial, he ρ σ ?_⟩
  · obtain ⟨rfl, hlt⟩ := upTo_at hv
    rw [Int.zero_add] at hlt ⊢
    exact hs k ρ σ hlt hI
  · rw [upTo_length, Int.sub_zero] at h; exact h
end
section
variable {c : Cx} {i : Ix} {ρ : Lo} {σ : Hp} {X : EX} {Q : MV → Hp → Prop}
theorem WFor.byIdxO {c : Cx} {i : Ix} {x : Str} {body : List Stmt} {still : Hp → Prop} {Q : MF → Lo → Hp → Prop} {items : List MV} {ρ : Lo} {σ : Hp} (Inv : Nat → Lo → Hp → Prop) (h0 : Inv 0 ρ σ)
    (hs : ∀ k v ρ σ, items[k]? = some v → Inv k ρ σ → still σ ∧ ∀ G : MF → Lo → Hp → Prop, (∀ ρ₂ σ₂, Inv (k + 1) ρ₂ σ₂ → G .next ρ₂ σ₂) → WSt c i x v ρ (fun ρ₁ σ₁ => WSs c i body ρ₁ G noSX σ₁) noSX σ)
    (he : ∀ ρ σ, Inv items.length ρ σ → still σ ∧ Q .next ρ σ) : WFor c i x body still Q items ρ σ :=
  WFor.byIdx Inv h0 (fun k v ρ σ hv hI => ⟨(hs k v ρ σ hv hI).1, (hs k v ρ σ hv hI).2 _ fun _ _ h => h⟩) he
theorem WFor.upToO {c : Cx} {i : Ix} {x : Str} {body : List Stmt} {Q : MF → Lo → Hp → Prop} {n : Int} {ρ : Lo} {σ : Hp} (Inv : Nat → Lo → Hp → Prop) (h0 : Inv 0 ρ σ)
    (hs : ∀ (k : Nat) ρ σ, (k : Int) < n → Inv k ρ σ → ∀ G : MF → Lo → Hp → Prop, (∀ ρ₂ σ₂, Inv (k + 1) ρ₂ σ₂ → G .next ρ₂ σ₂) → WSt c i x (.int (k : Int)) ρ (fun ρ₁ σ₁ => WSs c i body ρ₁ G noSX σ₁) noSX σ)
    (he : ∀ ρ σ, Inv n.toNat ρ σ → Q .next ρ σ) : WFor c i x body (fun _ => True) Q (Mine.upTo 0 n) ρ σ :=
  WFor.upTo Inv h0 (fun k ρ σ hk hI => hs k ρ σ hk hI _ fun _ _ h => h) he
theorem WC.isNN  (h : Q (.bool true) σ) : WC c i .Is .none .none ρ Q X σ := WC.isNone rfl h
theorem WC.isNS {x} (h : Q (.bool false) σ) : WC c i .Is (.str x) .none ρ Q X σ := WC.isNone rfl h
theorem WC.inS_t {a t es k v} (hd : σ a = some (t, .sdict es)) (hg : getK es k = some v) (h : Q (.bool true) σ) : WC c i .In (.str k) (.ref a) ρ Q X σ := WC.inS hd (by rw [hg]; exact h)
theorem WC.inS_f {a t es k} (hd : σ a = some (t, .sdict es)) (hg : getK es k = Option.none) (h : Q (.bool false) σ) : WC c i .In (.str k) (.ref a) ρ Q X σ := WC.inS hd (by rw [hg]; exact h)
theorem WC.notInS_t {a t es k v} (hd : σ a = some (t, .sdict es)) (hg : getK es k = some v) (h : Q (.bool false) σ) : WC c i .NotIn (.str k) (.ref a) ρ Q X σ := WC.notInS hd (by rw [hg]; exact h)
end
section
variable {c : Cx} {i : Ix} {ρ : Lo} {σ : Hp}
theorem gN {x pos} {Q : MV → Hp → Prop} {X : EX} (h : WE c i (.Name x pos) ρ Q X σ) : WE c i (.Name x pos) ρ Q X σ := h
theorem gE {e} {Q : MV → Hp → Prop} {X : EX} (h : WE c i e ρ Q X σ) : WE c i e ρ Q X σ := h
theorem gEs {p es} {Q : List MV → Hp → Prop} {X : EX} (h : WEs c i p es ρ Q X σ) : WEs c i p es ρ Q X σ := h
theorem gT {e} {Q : Bool → Hp → Prop} {X : EX} (h : WT c i e ρ Q X σ) : WT c i e ρ Q X σ := h
theorem gS {e} {Q : MF → Lo → Hp → Prop} {X : SX} (h : WS c i e ρ Q X σ) : WS c i e ρ Q X σ := h
theorem gSs {e} {Q : MF → Lo → Hp → Prop} {X : SX} (h : WSs c i e ρ Q X σ) : WSs c i e ρ Q X σ := h
theorem gTr {m} {Q : Bool → Hp → Prop} {X : EX} (h : WTr c i m ρ Q X σ) : WTr c i m ρ Q X σ := h
theorem gA {op es p t} {Q : Bool → Hp → Prop} {X : EX} (h : WA c i op es p t ρ Q X σ) : WA c i op es p t ρ Q X σ := h
theorem gB {op a b} {Q : MV → Hp → Prop} {X : EX} (h : WB c i op a b ρ Q X σ) : WB c i op a b ρ Q X σ := h
theorem gI {op a b} {Q : MV → Hp → Prop} {X : EX} (h : WI c i op a b ρ Q X σ) : WI c i op a b ρ Q X σ := h
theorem gC {op a b} {Q : MV → Hp → Prop} {X : EX} (h : WC c i op a b ρ Q X σ) : WC c i op a b ρ Q X σ := h
theorem gU {op a} {Q : MV → Hp → Prop} {X : EX} (h : WU c i op a ρ Q X σ) : WU c i op a ρ Q X σ := h
theorem gSub {v s a b} {Q : MV → Hp → Prop} {X : EX} (h : WSub c i v s a b ρ Q X σ) : WSub c i v s a b ρ Q X σ := h
theorem gSt {x v} {Q : Lo → Hp → Prop} {X : SX} (h : WSt c i x v ρ Q X σ) : WSt c i x v ρ Q X σ := h
theorem if_pt {b : Bool} {A B : Prop} (hb : b = true) (h : A) : if b = true then A else B := by rw [if_pos hb]; exact h
theorem if_pf {b : Bool} {A B : Prop} (hb : b = false) (h : B) : if b = true then A else B := by rw [hb]; exact h
theorem if_dt {p : Prop} [Decidable p] {A B : Prop} (hp : p) (h : A) : if decide p = true then A else B := by rw [if_pos (decide_eq_true hp)]; exact h
theorem if_df {p : Prop} [Decidable p] {A B : Prop} (hp : ¬ p) (h : B) : if decide p = true then A else B := by rw [decide_eq_false hp]; exact h
theorem if_et {m n : Int} {A B : Prop} (hp : m = n) (h : A) : if (m == n) = true then A else B := by rw [if_pos (by simpa using hp)]; exact h
theorem WE.sub' {v sl pos} {Q : MV → Hp → Prop} {X : EX} (hs : NoSlice sl) (h : WE c i v ρ (fun a σ₁ => WE c i sl ρ (fun b σ₂ => WSub c i v sl a b ρ Q X σ₂) X σ₁) X σ) : WE c i (.Subscript v sl pos) ρ Q X σ := WE.sub h
theorem gAttr {e n p} {Q : MV → Hp → Prop} {X : EX} (h : WE c i (.Attribute e n p) ρ Q X σ) : WE c i (.Attribute e n p) ρ Q X σ := h
theorem gMeth {o n p es ks q} {Q : MV → Hp → Prop} {X : EX} (h : WE c i (.Call (.Attribute o n p) es ks q) ρ Q X σ) : WE c i (.Call (.Attribute o n p) es ks q) ρ Q X σ := h
theorem gSubE {v sl pos} {Q : MV → Hp → Prop} {X : EX} (h : WE c i (.Subscript v sl pos) ρ Q X σ) : WE c i (.Subscript v sl pos) ρ Q X σ := h
def notFor : Stmt → Bool
  | .For .. => false
  | _ => true
theorem WSs.consA {st rest} {Q : MF → Lo → Hp → Prop} {X : SX} (hf : notFor st = true) (h : WS c i st ρ (fun m ρ₁ σ₁ => match m with | .next => WSs c i rest ρ₁ Q X σ₁ | m => Q m ρ₁ σ₁) X σ) : WSs c i (st :: rest) ρ Q X σ := WSs.cons h
theorem gIsi {m cv} {Q : MV → Hp → Prop} {X : EX} (h : WCall c i (.con (.builtin "isinstance")) [m, .con cv] ρ Q X σ) : WCall c i (.con (.builtin "isinstance")) [m, .con cv] ρ Q X σ := h
theorem gGetR {a : Nat} {n} {Q : MV → Hp → Prop} {X : EX} (h : WGet c i (.ref a) n ρ Q X σ) : WGet c i (.ref a) n ρ Q X σ := h
theorem gMR {a : Nat} {n} {Q : MV × List MV → Hp → Prop} {X : EX} (h : WM c i (.ref a) n ρ Q X σ) : WM c i (.ref a) n ρ Q X σ := h
theorem gSubI {v s} {a : Nat} {k : Int} {Q : MV → Hp → Prop} {X : EX} (h : WSub c i v s (.ref a) (.int k) ρ Q X σ) : WSub c i v s (.ref a) (.int k) ρ Q X σ := h
theorem gSubS {v s} {a : Nat} {k : Str} {Q : MV → Hp → Prop} {X : EX} (h : WSub c i v s (.ref a) (.str k) ρ Q X σ) : WSub c i v s (.ref a) (.str k) ρ Q X σ := h
theorem gInS {a : Nat} {k : Str} {Q : MV → Hp → Prop} {X : EX} (h : WC c i .In (.str k) (.ref a) ρ Q X σ) : WC c i .In (.str k) (.ref a) ρ Q X σ := h
theorem gNotInS {a : Nat} {k : Str} {Q : MV → Hp → Prop} {X : EX} (h : WC c i .NotIn (.str k) (.ref a) ρ Q X σ) : WC c i .NotIn (.str k) (.ref a) ρ Q X σ := h
theorem gMul {a b : Int} {Q : MV → Hp → Prop} {X : EX} (h : WB c i .Mult (.int a) (.int b) ρ Q X σ) : WB c i .Mult (.int a) (.int b) ρ Q X σ := h
theorem gIfD {p : Prop} [Decidable p] {A B : Prop} (h : if decide p = true then A else B) : if decide p = true then A else B := h
theorem gIfE {m n : Int} {A B : Prop} (h : if (m == n) = true then A else B) : if (m == n) = true then A else B := h
theorem gIf {b : Bool} {A B : Prop} (h : if b = true then A else B) : if b = true then A else B := h
end
end Mine
open PySem PySem.W PyProof.Rows
namespace Mine
section
variable {c : Cx} {i : Ix} {ρ : Lo} {σ : Hp} {X : EX} {Q : MV → Hp → Prop}
theorem WM.dictPop {a t es} {Q : MV × List MV → Hp → Prop} (hl : σ a = some (t, .sdict es)) (h : Q (.con (.builtin "dict.pop"), [.ref a]) σ) : WM c i (.ref a) "pop" ρ Q X σ := fun v pl iv f fr z s _ _ g R => by
  cases iv
  obtain ⟨l, kvs, hk, r⟩ := Rel.sdict R hl
  exact getMethod_builtin (T := "dict") hk.typeIs PySem.F.plainAttrs_dict PySem.F.slot_dict_pop PySem.F.type_dict_pop (fun b e => by cases e; obtain ⟨o, es', ep, ho, hx, _⟩ := hk; exact ⟨o, ho, hx.2.1⟩) ⟨(.con (.builtin "dict.pop"), [.ref a]), σ, ⟨rfl, .cons rfl .nil⟩, R, h⟩
theorem WCall.dictPop {a t : Nat} {es : List (Str × MV)} {k : Str} {v : MV} (hd : σ a = some (t, .sdict es)) (hz : es.length ≤ 1000000) (hv : getK es k = some v) (h : Q v (σ.put a t (.sdict (delK es k)))) : WCall c i (.con (.builtin "dict.pop")) [.ref a, .str k] ρ Q X σ := fun v' us iv iu f fr z s _ _ g R => by
  cases iv
  obtain ⟨u1, u2, rfl, i1, i2⟩ := iu.two
  cases i1
  obtain ⟨tk, rfl⟩ := i2
  obtain ⟨l, kvs, hk, r⟩ := Rel.sdict R hd
  obtain ⟨u, hu, is⟩ := getK_some r hv
  refine call_meetsIn PySem.F.slot_dict_pop hk.typeIs PySem.F.entry_dict_pop (PySem.F.args_dict_pop_2 _ _) (meets_dict_pop_there (PySem.strKind c.prog c.w) a (PySem.strKind_is _ _ k tk) [] (.inl rfl) rfl)
    ⟨kvs, u, hk, size_ok (by rw [← r.length]; exact hz), hu, fun h' hk' hs => ⟨v, _, is, R.upd (t' := t) (mo' := .sdict (delK es k)) hd rfl rfl (.of_same hs (R.neL hd)) ⟨l, ?_⟩, h⟩⟩
  obtain ⟨o, ho, hd'⟩ := Heap.dictOf_iff.mp hk'
  exact ⟨o, ho, _, hd', delK_all r k⟩
theorem all2_drop {α β : Type} {Rl : α → β → Prop} : ∀ (k : Nat) {l : List α} {m : List β}, All2 Rl l m → All2 Rl (l.drop k) (m.drop k)
  | 0, _, _, h => h
  | k + 1, _, _, .nil => .nil
  | k + 1, _, _, .cons _ h => all2_drop k h
theorem all2_take {α β : Type} {Rl : α → β → Prop} : ∀ (k : Nat) {l : List α} {m : List β}, All2 Rl l m → All2 Rl (l.take k) (m.take k)
  | 0, _, _, _ => .nil
  | k + 1, _, _, .nil => .nil
  | k + 1, _, _, .cons r h => .cons r (all2_take k h)
theorem pick_both (items : Array Value) (a b : Nat) (h : a ≤ b) : slicePick items (some (a : Int)) (some (b : Int)) Option.none = ((items.toList.take b).drop a).toArray := by
  rw [slicePick_plain]
  simp only [Option.elim, clipAt_nat]
  congr 1
  rw [List.drop_take]
  rcases Nat.le_total b items.size with hb | hb
  · rw [Nat.min_eq_left hb, Nat.min_eq_left (Nat.le_trans h hb)]
  · rw [Nat.min_eq_right hb]
    rcases Nat.le_total a items.size with ha | ha
    · rw [Nat.min_eq_left ha, List.take_of_length_le (by simp), List.take_of_length_le (by simp; omega)]
    · rw [Nat.min_eq_right ha, List.drop_of_length_le (by simp), List.drop_of_length_le (by simpa using ha)]; simp
theorem WE.sliceBoth {nm np lo hi p pos} (t : Nat) (h : WE c i (.Name nm np) ρ (fun a σ₁ => WE c i lo ρ (fun b σ₂ => WE c i hi ρ (fun d σ₃ => ∃ l xs, ∃ j k : Nat, a = .ref l ∧ b = .int j ∧ d = .int k ∧ j ≤ k ∧ ListAt σ₃ l xs ∧ xs.length ≤ 1000000 ∧
    ∀ B, Fresh σ₃ B → Q (.ref B) (σ₃.put B t (.list ((xs.take k).drop j)))) X σ₂) X σ₁) X σ) : WE c i (.Subscript (.Name nm np) (.Slice (some lo) (some hi) Option.none p) pos) ρ Q X σ := fun f fr z s a b g R => by
  refine wpAny_Subscript_list_slice (wuse (h f fr z s a b g R) (fun v s₁ _ σ₁ i1 R₁ h₁ => wpAny_evalPart_some (wuse (h₁ f fr z s₁ a b g R₁) (fun u s₂ _ σ₂ i2 R₂ h₂ => wpAny_evalPart_some (wpAny_mono (h₂ f fr z s₂ a b g R₂) (fun u' s₃ ⟨_, σ₃, i3, R₃, l, xs, j, k, e1, e2, e3, hjk, hl, hz, h₃⟩ => ?_) fun _ _ x => x)) fun _ _ x => x)) fun _ _ x => x)
  subst e1; subst e2; subst e3
  cases i1; obtain ⟨tk, rfl⟩ := i2; obtain ⟨tk', rfl⟩ := i3
  obtain ⟨its, hi', r⟩ := R₃.isList hl
  have e : its.size = xs.length := by rw [r.length]; simp
  refine ⟨l, its, some j, some k, rfl, hi', size_ok (by rw [e]; exact hz), .int _ _, .int _ _, ?_⟩
  rw [pick_both its j k hjk]
  have kp : ∀ b o, s₃.heap.get? b = some o → ((s₃.heap.push { cls := .type "slice", data := .fields #[.int (j : Int) tk, .int (k : Int) tk', .none] }).push { cls := .type "list", data := .seq ((its.toList.take k).drop j).toArray }).get? b = some o :=
    fun b o e => Heap.get?_push_of_some _ (Heap.get?_push_of_some _ e)
  have hD : ((s₃.heap.push { cls := .type "slice", data := .fields #[.int (j : Int) tk, .int (k : Int) tk', .none] }).push { cls := .type "list", data := .seq ((its.toList.take k).drop j).toArray }).get? (s₃.heap.objs.size + 1) = some (listOf ((its.toList.take k).drop j).toArray 0) := by
    have e1 := Heap.get?_push_size (s₃.heap.push { cls := .type "slice", data := .fields #[.int (j : Int) tk, .int (k : Int) tk', .none] }) (o := { cls := .type "list", data := .seq ((its.toList.take k).drop j).toArray }) rfl
    rw [Heap.size_push] at e1
    exact e1
  refine ⟨.ref (s₃.heap.objs.size + 1), _, rfl, R₃.alloc (mo := .list ((xs.take k).drop j)) (tk := s₃.toks) t (.of_grown kp) (Nat.le_succ _) (fun q => by cases q) ⟨_, _, hD, ?_⟩, h₃ _ fun a p e => Nat.lt_succ_of_lt (R₃.some_lt e)⟩
  simpa using all2_drop j (all2_take k r)
end
end Mine
open PySem PySem.W PyProof.Rows
namespace Mine
section
variable {c : Cx} {i : Ix} {ρ : Lo} {σ : Hp} {X : SX} {Q : MF → Lo → Hp → Prop}
theorem WS.raise {x : Str} {np cpos pos : Pos} {arg : Expr} {C : Nat} {newId Bn inN B nid initId : String} {bm bmN : List Value} (hn : i.hn = true) (hl : i.sc.names.lookup x = some .globalImplicit) (hg : c.glob x = some (.ref C))
    (hs : specOf c.p x = some (newId, bm)) (Fn : ExcBaseFacts Bn newId inN bmN) (FB : ExcBaseFacts B nid initId bm) (hBn : bm.contains (.type Bn) = true) (hst : noStar arg = true)
    (h : WE c i arg ρ (fun v σ₁ => ∀ e, X true C e ρ σ₁) (X.ex ρ) σ) : WS c i (.Raise (some (.Call (.Name x np) [arg] [] cpos)) none pos) ρ Q X σ := fun f fr z s a b g R => by
  obtain ⟨C', O, hm⟩ := g.top.ownAt hs
  obtain ⟨hd, ⟨u, hu, is⟩ | ⟨hno, _, u, hu, is⟩⟩ := g.ok.glob x _ hg
  · cases is
    have hmg := mg_of g.K g.top.g hu
    have hCC : C' = C := by have := O.bound; rw [hmg] at this; cases this; rfl
    subst hCC
    obtain ⟨tl, N, nm, q, bs, hdct, sn, sub, ab, col, dd, k0, k1, k2, k3, k5, mN, hC, hN, hni, T⟩ := O.own.obj
    have hp : (backTo cpos (starEach [arg] f.env)).any (·.1) = false := back_any (by simp [hst])
    refine wpAny_Raise_call_subU (C := C') (nm := nm) (q := q) (N := N) (bs := bs) (bm := tl) (hdct := hdct) (sn := sn) (sub := sub) (ab := ab) (col := col) (dd := dd) (k0 := k0) (k1 := k1) (k2 := k2) (k3 := k3) (k5 := k5)
      Fn hBn FB (mN := mN) (T.hasType FB.hasBase) (b hn) hp hni ?_
    refine Calls.Name_function_global g.kind (kindAt a hl) (Calls.loadGlobal_global (mg := c.mg) (v := .ref C') (by rw [g.globals]; exact (g.at R).g) hmg ⟨rfl, ?_⟩) hd
    have hW : WEs c i cpos [arg] ρ (fun vs σ₁ => vs.length ≤ 1 ∧ ∀ e, X true C' e ρ σ₁) (X.ex ρ) σ := WEs.cons hst (W.mono h fun v σ₁ hx => WEs.nil ⟨Nat.le_refl 1, hx⟩)
    have hw := hW f fr z s a b g R
    dsimp only at hw
    rw [starEach_cons hst] at hw ⊢
    refine Calls.evalArgs_plain (wpAny_mono hw (fun vs s₂ x => ?_) fun _ _ x => Ex.at x)
    obtain ⟨ms, σ₁, iv, R₁, hlen, hX⟩ := x
    have kp : ∀ b o, f.base.get? b = some o → s₂.heap.get? b = some o := g.keep R₁
    have hvl : vs.length ≤ 1 := by rw [← iv.length]; exact hlen
    exact ⟨rfl, size_ok (Nat.le_trans hvl (by decide)), kp _ _ hC, hN.keeps kp, T.keeps kp, fun h' e mk => ⟨true, C', e, ρ, σ₁, rfl, ⟨s₂.heap, vs, R₁, mk⟩, hX e⟩⟩
  · cases is
    have hm2 := mg_none_of g.K g.top.g hno
    have := O.bound
    rw [hm2] at this
    cases this
end
theorem funFrames_of {h base : Heap} : ∀ {l : List Env}, (∀ env ∈ l, env.scope.kind ≠ .module ∧ ∃ L o, env.frame = some L ∧ h.get? L = some o ∧ (∀ vs, o.data ≠ .fields vs) ∧ base.get? L = none) → h.FunFrames base l
  | [], _ => trivial
  | env :: l, k => by
    obtain ⟨k1, L, o, k2, k3, k4, k5⟩ := k env (.head _)
    exact ⟨k1, ⟨L, o, k2, k5, k3, k4⟩, funFrames_of fun e he => k e (.tail _ he)⟩
theorem leave_call {c : Cx} {n : Nat} {f : Fm} {fr : Nat → Option Obj} {ρ ρ' : Lo} {σ σ' : Hp} {z s s'' : Shared} {qual : Str} {scope : Scope} {fa : Nat} {cd : Value} {ps : List Str} (g : Good c (n + 1) f fr) (R : c.Rel f ρ σ fr z s) (hs : scopeOk scope ps = true) {b : Bool} {C e : Nat}
    (x : XRel c b (newFm f qual scope s.heap.objs.size fa cd) ρ' σ' (restOf σ s) z s'' C e) {P : Unit → Shared → Prop} {E : Value → Shared → Prop} (hP : ∀ s3, XRel c false f ρ σ' fr z s3 C e → P () s3) :
    wpAny c.M (f.A.deeper (envOfC qual scope s.heap.objs.size fa cd)) (leaving (envOfC qual scope s.heap.objs.size fa cd) (.ref e)) P E s'' := by
  have G' := newFm_good g R (qual := qual) (fa := fa) (cd := cd) hs
  have key : ∀ {h : Heap}, c.Rel (newFm f qual scope s.heap.objs.size fa cd) ρ' σ' (restOf σ s) z { s'' with heap := h } → ∀ s3 : Shared, s3.gens = s''.gens → s3.drawn = s''.drawn → s3.os = s''.os → c.Rel f ρ σ' fr z { s3 with heap := h.hide s.heap.objs.size } := fun {h} R'' s3 e1 e2 e3 => by
    have R2 : c.Rel f ρ σ' fr z { s'' with heap := h } := R.back (f' := newFm f qual scope s.heap.objs.size fa cd) g rfl rfl R''
    have al : Alien f σ' fr s.heap.objs.size := R.alienAt (Nat.le_refl _) fun q => (R''.apart _ q).2.1 rfl
    have hn : ∀ t mo, σ' s.heap.objs.size ≠ some (t, mo) := fun t mo q => R''.neL q rfl
    have R3 := R2.alien al (h' := h.hide s.heap.objs.size) (tk := s3.toks) hn fun a o ne ho => (Heap.hide_ne h ne).trans ho
    have e4 : ({ s3 with heap := h.hide s.heap.objs.size } : Shared) = { s'' with heap := h.hide s.heap.objs.size, toks := s3.toks } := by
      cases s3; cases s''; simp at e1 e2 e3 ⊢; exact ⟨e1, e2, e3⟩
    rw [e4]; exact R3
  have hfr : (f.A.deeper (envOfC qual scope s.heap.objs.size fa cd)).frames = some (envOfC qual scope s.heap.objs.size fa cd :: f.top :: f.outer) := G'.frames
  cases b with
  | true =>
    obtain ⟨h, vs, R'', mk⟩ := x
    have fi := G'.frame_in R''
    have ff : h.FunFrames f.base (envOfC qual scope s.heap.objs.size fa cd :: f.top :: f.outer) := funFrames_of fun env he => by
      obtain ⟨k1, L, o, k2, k3, k4, k5⟩ := fi env he
      refine ⟨k1, L, o, k2, ?_, k4, k5⟩
      unfold restOf at k3
      split at k3
      · cases k3
      · exact k3
    refine wpAny_leaves_madeW (base := hideAll h (s.heap.objs.size :: frameAddrs (f.top :: f.outer))) hfr rfl (fun b o q => of_hideAll _ q) (funFrames_hide ff fun env he a ha => ?_) mk fun h' t x1 x2 x3 x4 => ?_
    · rcases List.mem_cons.mp he with rfl | he
      · cases ha; exact .head _
      · exact .tail _ (List.mem_filterMap.mpr ⟨env, he, ha⟩)
    · exact hP _ ⟨h.hide s.heap.objs.size, t, vs, key R'' _ rfl rfl rfl, x1, x3, x2, fun b o q => ((Heap.UpToSlots.of_keeps mk.keeps).trans x4) b o (Heap.of_hide q)⟩
  | false =>
    obtain ⟨h, t, vs, R'', x1, x2, x3, x4⟩ := x
    refine wpAny_leaves_onW hfr rfl x1 fun h' y1 y2 => ?_
    exact hP _ ⟨h.hide s.heap.objs.size, t, vs, key R'' _ rfl rfl rfl, y1, x2, x3.of_slots y2, fun b o q => (x4.trans y2) b o (Heap.of_hide q)⟩
theorem WFn.fnX {c : Cx} {n : Nat} {hn : Bool} {sc : Scope} {a : Nat} {ps : List Str} {body : List Stmt} {scope : Scope} (F : FnAt c a ps body scope) {as : List MV} {ρ : Lo} {Q : MV → Hp → Prop} {X : EX} {σ : Hp} (hl : as.length = ps.length)
    (h : WSs c ⟨n, hn, scope⟩ body (bindLo ps as fun _ => none) (fun m _ σ' => Q m.val σ') (fun _ C e _ σ' => X false C e σ') σ) : WFn c ⟨n + 1, hn, sc⟩ a as ρ Q X σ := fun us iu f fr z s hsc hh g R => by
  obtain ⟨⟨oc, od, osl, name, qual, params, dV, kV, doc, pm, an, cdv, ct, ho, hcd, hb⟩, hs⟩ := F
  obtain ⟨hk, hco, hgen, hps, hcl, hnd⟩ := scopeOk_of hs
  have hroom : f.A.depth < recursionLimit := by have := g.room; omega
  refine codeAny_call_function hroom (g.inK R _ _ ho) rfl hco hgen rfl (codeRec_of (g.inK R) hcd) ?_
  rw [hb us (by rw [← iu.length, hl])]
  refine wpAny_pure ?_
  refine wpAny_newFunctionEnv_cells hk (fun x hx => ?_) fun env' he s' x => ?_
  · have hx' := hps x.1 (List.of_mem_zip hx).1
    exact hx'.imp id fun q => ⟨q, cellsFrom_some _ _ _ (.inl q)⟩
  · subst he
    refine ⟨(g.at R).nolimit.keeps x.toInCall.keep, codeAny_func ?_⟩
    have G' := newFm_good g R (qual := qual) (fa := a) (cd := cdv) hs
    have R' := newFm_rel g R (qual := qual) (fa := a) (cd := cdv) hs iu x
    refine wuse6 (h (newFm f qual scope s.heap.objs.size a cdv) _ z s' rfl (fun q => hh q) G' R') (fun fl s'' m ρ' σ' is R'' q => ?_) fun ev s'' x => ?_
    · refine ⟨m.val, σ', ?_, R.back (f' := newFm f qual scope s.heap.objs.size a cdv) g rfl rfl R'', q⟩
      cases m with
      | ret v => obtain ⟨u, rfl, is⟩ := is; exact is
      | next => cases is; rfl
      | brk => cases is; rfl
      | cont => cases is; rfl
    · obtain ⟨b, C, e, ρ', σ', rfl, xr, hx⟩ := x
      exact leave_call g R hs xr fun s3 x3 => ⟨false, C, e, ρ, σ', rfl, x3, rfl, hx⟩
end Mine
open PySem PySem.W PyProof.Rows
namespace Mine
theorem Rel.landed {c : Cx} {n : Nat} {f : Fm} {fr : Nat → Option Obj} {ρ : Lo} {σ : Hp} {z s : Shared} {h h' : Heap} (g : Good c n f fr) (R : c.Rel f ρ σ fr z { s with heap := h })
    (B : ∀ b o, (hideAll h (frameAddrs (f.top :: f.outer))).get? b = some o → h'.get? b = some o) (U : h.UpToSlots h') (N : ∀ m, h.Ns f.L m → h'.Ns f.L m) : c.Rel f ρ σ fr z { s with heap := h' } := by
  have st : ∀ a, a ∉ frameAddrs (f.top :: f.outer) → ∀ o, h.get? a = some o → h'.get? a = some o := fun a ha o ho => B a o (hideAll_get _ ho ha)
  have own : ∀ a t mo, σ a = some (t, mo) → a ∉ frameAddrs (f.top :: f.outer) := fun a t mo e hm => by
    rcases g.slots a hm with q | q
    · exact R.neL e q
    · obtain ⟨o, ho⟩ := g.slotIn a q
      by_cases hk : mo.isK = true
      · cases mo <;> first | cases hk | skip
        have := R.kl a t _ _ e
        rw [g.apart a q] at this; cases this
      · have := (R.apart a (Foot.of_some e (by simpa using hk))).1
        rw [ho] at this; cases this
  have nf : ∀ a o, a ∈ frameAddrs (f.top :: f.outer) → fr a = some o → ∀ vs, o.data ≠ .fields vs := fun a o hm e => by
    obtain ⟨env, he, hf⟩ := List.mem_filterMap.mp hm
    rcases List.mem_cons.mp he with rfl | he
    · obtain ⟨L, hL, hc, _⟩ := g.topL
      rw [hL] at hf
      cases hf
      rcases hc with q | ⟨_, o', ho', hd⟩
      · have := R.frame.1; rw [q] at e; rw [this] at e; cases e
      · rw [ho'] at e; cases e; exact hd
    · obtain ⟨_, L, o', hf', _, ho', hd⟩ := g.outer env he
      rw [hf'] at hf
      cases hf
      rw [ho'] at e; cases e; exact hd
  exact {
    same := R.same
    keep := fun a o e => by
      obtain ⟨sl, e1, e2⟩ := R.keep a o e
      by_cases hm : a ∈ frameAddrs (f.top :: f.outer)
      · rcases g.slots a hm with q | q
        · have := R.frame.1; rw [q] at e; rw [this] at e; cases e
        · obtain ⟨sl', e3⟩ := U a _ e1 (nf a o hm e)
          exact ⟨sl', e3, fun q' => absurd q q'⟩
      · exact ⟨sl, st a hm _ e1, e2⟩
    objs := fun a t mo e => (R.objs a t mo e).of_same (fun o ho => st a (own a t mo e) o ho) fun d o hi ha ho => by
      refine st d (fun hm => ?_) o ho
      subst ha
      cases mo <;> first | cases hi | skip
      have hf := R.apart d (.inr ⟨_, _, _, e⟩)
      rcases g.slots d hm with q | q
      · exact hf.2.1 q
      · obtain ⟨o', ho'⟩ := g.slotIn d q
        rw [hf.1] at ho'; cases ho'
    wf := R.wf
    apart := R.apart
    ns := by obtain ⟨m, hn, q⟩ := R.ns; exact ⟨m, N m hn, q⟩
    cel := fun x k hk => by
      obtain ⟨o, v, ho, r⟩ := R.cel x k hk
      refine ⟨o, v, st k (fun hm => ?_) o ho, r⟩
      have hf := R.frame.2 x k hk
      rcases g.slots k hm with q | q
      · exact hf.2 q
      · obtain ⟨o', ho'⟩ := g.slotIn k q
        rw [hf.1] at ho'; cases ho'
    frame := R.frame
    kl := R.kl }
end Mine
open PySem PySem.W PyProof.Rows
namespace Mine
theorem matches_own {M : Model} {A : Around} {E : Value → Shared → Prop} {s : Shared} {K : Frag} {e C D : Nat} {oe : Obj} {b : Bool} {Q : Bool → Shared → Prop} (X : K.In s.heap) (he : s.heap.get? e = some oe) (hc : oe.cls = .ref C)
    (h0 : (clsIn K D).isSome = true) (h1 : typeIn K (.ref D) = some (.type "type")) (h2 : subIn K (.ref D) (.type "BaseException") = some true) (h3 : subIn K (.ref C) (.ref D) = some b) (hq : Q b s) : wpAny M A (excMatches (.ref e) (.ref D)) Q E s := by
  have LT := looks_typeIn (M := M) X h1
  have LD := looks_subIn (M := M) X h2
  have LC := looks_subIn (M := M) X h3
  have LI : Looks M s.heap (isInstance (.ref D) (.type "tuple")) false := LT.andThen (Looks.of_pure tc_notTuple)
  have LY : Looks M s.heap (isType (.ref D)) true := by
    unfold clsIn at h0
    split at h0
    · rename_i c' d' cd' sl' ho
      intro A' Q' E' s' k q
      unfold isType loadHead
      exact wpAny_bind (wpAny_loadPart (k _ _ (X _ _ ho)) (wpAny_pure q))
    · cases h0
  have LE : Looks M s.heap (isExcClass (.ref D)) true := LY.andThen LD
  have Le : Looks M s.heap (typeOf (.ref e)) (.ref C) := hc ▸ (Looks.ld he).andThen .now
  unfold excMatches
  refine wpAny_bind (LI.here ?_)
  cases b <;> (repeat (first | (with_reducible refine LE.here ?_) | (with_reducible refine Le.here ?_) | (with_reducible refine LC.here ?_) | wp_step)) <;> exact hq
theorem noteFrame_home {env env' : Env} (h : env.frame = env'.frame) (e : Value) : noteFrame e env = noteFrame e env' := by
  unfold noteFrame PySem.frameOf; rw [h]
theorem funFrames_at {h base : Heap} {l : List Env} (H : h.FunFrames base l) : ∀ env ∈ l, ∃ L o, env.frame = some L ∧ h.get? L = some o ∧ ∀ vs, o.data ≠ .fields vs := by
  induction l with
  | nil => intro e he; cases he
  | cons env l ih =>
    intro e he
    obtain ⟨_, ⟨L, o, k2, _, k3, k4⟩, r⟩ := H
    rcases List.mem_cons.mp he with rfl | he
    · exact ⟨L, o, k2, k3, k4⟩
    · exact ih r e he
theorem fly_none {h h' : Heap} {l : List Env} {e : Nat} {cls a0 : Value} (fl : Heap.FlyingW (hideAll h (frameAddrs l)) l e cls a0 h') : h.get? e = none := by
  cases q : h.get? e with
  | none => rfl
  | some o =>
    by_cases hm : e ∈ frameAddrs l
    · obtain ⟨env, he, hf⟩ := List.mem_filterMap.mp hm
      obtain ⟨L, o', h1, h2, h3⟩ := funFrames_at fl.2.2.1 env he
      obtain ⟨oe, ws, hoe, hoec, hoed, hoe0⟩ := fl.first
      rw [h1] at hf
      cases hf
      rw [hoe] at h2
      cases h2
      exact absurd hoed (h3 _)
    · have := hideAll_get _ q hm
      rw [fl.2.1] at this
      cases this
section
variable {c : Cx} {n : Nat} {f : Fm} {fr : Nat → Option Obj} {ρ : Lo} {σ : Hp} {z s : Shared} {C e : Nat}
theorem XRel.rel (g : Good c n f fr) (x : XRel c false f ρ σ fr z s C e) : c.Rel f ρ σ fr z s := by
  obtain ⟨h, t, vs, R, fl, ht, tup, U⟩ := x
  exact R.landed g (h' := s.heap) fl.1 U fun m hn => U.ns hn
theorem XRel.exc (g : Good c n f fr) (x : XRel c false f ρ σ fr z s C e) (t : Nat) : c.Rel f ρ (σ.put e t (.exc C)) fr z s := by
  have R' := x.rel g
  obtain ⟨h, t', vs, R, fl, ht, tup, U⟩ := x
  have hn : h.get? e = none := fly_none fl
  obtain ⟨oe, ws, hoe, hoec, hoed, hoe0⟩ := fl.first
  exact {
    same := R'.same
    keep := R'.keep
    objs := fun a t1 mo q => by
      by_cases ha : a = e
      · subst ha; rw [Hp.put_self] at q; cases q; exact ⟨oe, hoe, hoec, by unfold notCls; rw [hoed]⟩
      · rw [Hp.put_ne _ _ _ ha] at q; exact R'.objs a t1 mo q
    wf := fun a t1 C' fs q => by
      by_cases ha : a + 1 = e
      · rw [ha, Hp.put_self] at q; cases q
      · rw [Hp.put_ne _ _ _ ha] at q
        by_cases hb : a = e
        · subst hb
          obtain ⟨o, ho⟩ := (R.objs _ t1 _ q).dict_there
          exact absurd (hn.symm.trans ho) nofun
        · rw [Hp.put_ne _ _ _ hb]; exact R'.wf a t1 C' fs q
    apart := fun a fa => by
      by_cases ha : a = e
      · subst ha
        refine ⟨?_, fun q => ?_, fun y k hk q => ?_⟩
        · cases q : fr a with
          | none => rfl
          | some o => obtain ⟨sl, ho, _⟩ := R.keep a o q; exact absurd (hn.symm.trans ho) nofun
        · obtain ⟨m, ⟨o, es, ep, ho, _⟩, _⟩ := R.ns
          rw [← q] at ho
          exact absurd (hn.symm.trans ho) nofun
        · obtain ⟨o, v, ho, _⟩ := R.cel y k hk
          rw [← q] at ho
          exact absurd (hn.symm.trans ho) nofun
      · refine R'.apart a ?_
        rcases fa with ⟨t1, mo, fa, fk⟩ | ⟨t1, C', fs, fa⟩
        · rw [Hp.put_ne _ _ _ ha] at fa; exact .of_some fa fk
        · by_cases hb : a + 1 = e
          · rw [hb, Hp.put_self] at fa; cases fa
          · rw [Hp.put_ne _ _ _ hb] at fa; exact .inr ⟨t1, C', fs, fa⟩
    ns := R'.ns
    cel := R'.cel
    frame := R'.frame
    kl := fun a t1 xs o q => by
      by_cases ha : a = e
      · subst ha; rw [Hp.put_self] at q; cases q
      · rw [Hp.put_ne _ _ _ ha] at q; exact R'.kl a t1 xs o q }
end
def Lo.del (ρ : Lo) (x : Str) : Lo := fun y => if y = x then none else ρ y
theorem Rel.delLocal {c : Cx} {f : Fm} {ρ : Lo} {σ : Hp} {fr : Nat → Option Obj} {z s : Shared} (R : c.Rel f ρ σ fr z s) {x : Str} {v : Option Value} {m : Str → Option Value} {h' : Heap} {tk : Nat}
    (hm : ∀ y, f.env.scope.names.lookup y = some .local → OptIs (ρ y) (m y)) (hn : h'.Ns f.env.locals (fun y => if y = x then v else m y)) (hs : Heap.SameBut f.env.locals s.heap h')
    (hc : ∀ k, (x, k) ∉ f.env.cells) (hcl : ∀ y k, (y, k) ∈ f.env.cells → k ≠ f.env.locals) : c.Rel f (ρ.del x) σ fr z { s with heap := h', toks := tk } where
  same := R.same
  keep := fun a o e => let ⟨sl, e1, e2⟩ := R.keep a o e; ⟨sl, (hs.2 a fun q => by have := R.frame.1; rw [show f.L = a from q.symm, e] at this; cases this).trans e1, e2⟩
  objs := fun a t mo e => (R.objs a t mo e).of_same (fun o e' => (hs.2 a (R.neL e)).trans e') fun d o hi ed e' => (hs.2 d (by
    subst ed
    cases mo <;> first | cases hi | skip
    exact (R.apart d (.inr ⟨_, _, _, e⟩)).2.1)).trans e'
  wf := R.wf
  apart := R.apart
  ns := ⟨_, hn, fun y hy => by
    by_cases q : y = x
    · subst q; simp only [Lo.del, if_true]; exact trivial
    · simp only [Lo.del, if_neg q]; exact hm y hy⟩
  cel := fun y k hk => by
    obtain ⟨o, v', e, d, r⟩ := R.cel y k hk
    refine ⟨o, v', (hs.2 k (hcl y k hk)).trans e, d, ?_⟩
    have : y ≠ x := fun q => hc k (q ▸ hk)
    simp only [Lo.del, if_neg this]; exact r
  frame := R.frame
  kl := R.kl
def WH (c : Cx) (i : Ix) (hs : List ExceptHandler) (C e : Nat) (ρ : Lo) (Q : MF → Lo → Hp → Prop) (X : SX) (σ : Hp) : Prop :=
  ∀ f fr z s, f.env.scope = i.sc → (i.hn = true → f.A.handled = none) → Good c i.n f fr → XRel c false f ρ σ fr z s C e →
    wpAny c.M f.A (handleBy (.ref e) f.env hs) (fun fl s' => ∃ m ρ' σ', MF.Is m fl ∧ c.Rel f ρ' σ' fr z s' ∧ Q m ρ' σ') (XPost c f fr z X) s
section
variable {c : Cx} {i : Ix} {ρ : Lo} {σ : Hp} {X : SX} {Q : MF → Lo → Hp → Prop}
theorem WS.try {body : List Stmt} {h₀ : ExceptHandler} {hs : List ExceptHandler} {pos : Pos} (h : WSs c i body ρ Q (fun b C e ρ₁ σ₁ => b = false ∧ WH c i (h₀ :: hs) C e ρ₁ Q X σ₁) σ) : WS c i (.Try body (h₀ :: hs) [] [] pos) ρ Q X σ := fun f fr z s a b g R => by
  refine wpAny_Try_except (wpAny_mono (h f fr z s a b g R) (fun fl s₁ x => ?_) fun ev s₁ x => ?_)
  · obtain ⟨m, ρ', σ', is, R₁, q⟩ := x
    cases m with
    | next => cases is; exact wpAny_execs_nil ⟨.next, ρ', σ', rfl, R₁, q⟩
    | brk => cases is; exact ⟨.brk, ρ', σ', rfl, R₁, q⟩
    | cont => cases is; exact ⟨.cont, ρ', σ', rfl, R₁, q⟩
    | ret v => obtain ⟨u, rfl, is⟩ := is; exact ⟨.ret v, ρ', σ', ⟨u, rfl, is⟩, R₁, q⟩
  · obtain ⟨b', C, e, ρ', σ', rfl, xr, rfl, hw⟩ := x
    obtain ⟨h₁, t, vs, R₁, fl, ht, tup, U⟩ := xr
    obtain ⟨L, hL, _⟩ := g.topL
    rw [noteFrame_home g.home]
    refine wpAny_looks_onW g.frames hL fl fun h₄ held U₄ => ?_
    refine wpAny_landsW held fun h₅ fl₅ U₅ => ?_
    exact hw f fr z _ a b g ⟨h₁, t, vs, R₁, fl₅, ht, (tup.of_slots U₄).of_slots U₅, (U.trans U₄).trans U₅⟩
structure HandOk (c : Cx) (i : Ix) (x : Str) (D : Nat) : Prop where
  kind : i.sc.names.lookup x = some .globalImplicit
  glob : c.glob x = some (.ref D)
  cls : (clsIn c.K D).isSome = true
  typ : typeIn c.K (.ref D) = some (.type "type")
  exc : subIn c.K (.ref D) (.type "BaseException") = some true
theorem test_own {x : Str} {np pos : Pos} {C D e : Nat} {b : Bool} (ho : HandOk c i x D) (hsub : subIn c.K (.ref C) (.ref D) = some b) {f : Fm} {fr : Nat → Option Obj} {z s : Shared} {P : Result → Shared → Prop} (a : f.env.scope = i.sc) (g : Good c i.n f fr)
    (xr : XRel c false f ρ σ fr z s C e) (h : P (.ok (if b then .brk else .next)) s) : codeAny c.M (f.A.mark (some (.ref e))) (.handlers (.ref e) [.ExceptHandler (some (.Name x np)) none [] pos] f.env) P s := by
  have R := xr.rel g
  obtain ⟨h₁, t, vs, R₁, fl, ht, tup, U⟩ := xr
  obtain ⟨oe, ws, hoe, hoec, hoed, hoe0⟩ := fl.first
  refine codeAny_handlers_test ?_
  obtain ⟨hd, ⟨u, hu, is⟩ | ⟨hno, hn, u, hu, is⟩⟩ := g.ok.glob x _ ho.glob
  · cases is
    exact Calls.Name_function_global g.kind (kindAt a ho.kind) (Calls.loadGlobal_global (mg := c.mg) (v := .ref D) (by rw [g.globals]; exact (g.at R).g) (mg_of g.K g.top.g hu) (matches_own (K := c.K) (g.inK R) hoe hoec ho.cls ho.typ ho.exc hsub h)) hd
  · cases is
    exact Calls.Name_function_global g.kind (kindAt a ho.kind) (Calls.loadGlobal_builtin (mg := c.mg) (mb := c.mb) (v := .ref D) (by rw [g.globals]; exact (g.at R).g) (mg_none_of g.K g.top.g hno) (by rw [g.builtins]; exact (g.at R).b)
      ((g.top.builtins x hn).trans hu) (matches_own (K := c.K) (g.inK R) hoe hoec ho.cls ho.typ ho.exc hsub h)) hd
theorem Good.marked {n : Nat} {f : Fm} {fr : Nat → Option Obj} (g : Good c n f fr) {o : Option Value} : Good c n { f with A := f.A.mark o } fr := by
  exact {
      ok := g.ok, base := g.base, apart := g.apart, K := g.K, top := g.top, kind := g.kind, globals := g.globals, celled := g.celled, cellk := g.cellk, cellnd := g.cellnd, builtins := g.builtins
      room := g.room, units := g.units, frames := g.frames, topk := g.topk, low := g.low, slots := g.slots, topL := g.topL, slotIn := g.slotIn, home := g.home, outer := g.outer }
theorem WH.hitAs {x y : Str} {np : Pos} {b₀ : Stmt} {suite : List Stmt} {pos : Pos} {rest : List ExceptHandler} {C D e : Nat} (t : Nat) (ho : HandOk c i x D) (hsub : subIn c.K (.ref C) (.ref D) = some true) (hl : i.sc.names.lookup y = some .local)
    (h : σ e = none → WSs c ⟨i.n, false, i.sc⟩ (b₀ :: suite) (ρ.put y (.ref e)) (fun m ρ' σ' => Q m (ρ'.del y) σ') noSX (σ.put e t (.exc C))) :
    WH c i (.ExceptHandler (some (.Name x np)) (some y) (b₀ :: suite) pos :: rest) C e ρ Q X σ := fun f fr z s a b g xr => by
  refine wpAny_handleBy_cons (test_own ho hsub a g xr ?_) (by intro q; cases q)
  obtain ⟨h₁, t', vs, R₁, fl, ht, tup, U⟩ := xr
  show codeAny _ _ _ _ _
  refine codeAny_handlers_suite_as (lands_againW fl fun h₆ fl₆ U₆ => ?_)
  have xr₆ : XRel c false f ρ σ fr z { s with heap := h₆ } C e := ⟨h₁, t', vs, R₁, fl₆, ht, tup.of_slots U₆, U.trans U₆⟩
  have fresh : σ e = none := by
    cases q : σ e with
    | none => rfl
    | some p => obtain ⟨t1, mo⟩ := p; obtain ⟨o, ho⟩ := (R₁.objs e t1 mo q).there; exact absurd ((fly_none fl).symm.trans ho) nofun
  have hW : WSt c ⟨i.n, false, i.sc⟩ y (.ref e) ρ (fun ρ₁ σ₁ => WSs c ⟨i.n, false, i.sc⟩ (b₀ :: suite) ρ₁ (fun m ρ' σ' => Q m (ρ'.del y) σ') noSX σ₁) noSX (σ.put e t (.exc C)) := WSt.local hl (h fresh)
  refine wuse4 (hW (.ref e) rfl { f with A := f.A.mark (some (.ref e)) } fr z _ a (fun q => by cases q) g.marked (xr₆.exc g t).withA) (fun _ s₂ ρ₂ σ₂ R₂ h₂ => ?_) fun _ _ x => noSX_elim x
  refine wpAny_mono (h₂ { f with A := f.A.mark (some (.ref e)) } fr z _ a (fun q => by cases q) g.marked R₂) (fun fl s₃ x => ?_) fun _ _ x => noSX_elim x
  obtain ⟨m, ρ', σ', is, R₇, q⟩ := x
  have R₈ : c.Rel f ρ' σ' fr z s₃ := R₇.ofA
  obtain ⟨mm, hn, hm⟩ := R₈.ns
  refine wpAny_nameGoes_keeps (kindAt a hl) hn ?_ fun h' v hn' hs' => ⟨m, ρ'.del y, σ', is, R₈.delLocal hm hn' hs' (fun k hk => g.cellk y k hk (kindAt a hl)) (fun y k hk => g.cellnd.2.2 y k hk), q⟩
  rw [g.kind]; rfl
end
section
variable {c : Cx} {n : Nat} {hn : Bool} {sc : Scope} {ρ : Lo} {σ : Hp} {X : SX} {Q : MF → Lo → Hp → Prop}
theorem WH.hitAsA {x y : Str} {np : Pos} {b₀ : Stmt} {suite : List Stmt} {pos : Pos} {rest : List ExceptHandler} {C D e : Nat} (t : Nat) (ho : HandOk c ⟨n, hn, sc⟩ x D) (hsub : subIn c.K (.ref C) (.ref D) = some true) (hl : sc.names.lookup y = some .local)
    (h : σ e = none → WSs c ⟨n, false, sc⟩ (b₀ :: suite) (ρ.put y (.ref e)) (fun m ρ' σ' => Q m (ρ'.del y) σ') noSX (σ.put e t (.exc C))) :
    WH c ⟨n, hn, sc⟩ (.ExceptHandler (some (.Name x np)) (some y) (b₀ :: suite) pos :: rest) C e ρ Q X σ := WH.hitAs t ho hsub hl h
end
section
variable {c : Cx} {n : Nat} {hn : Bool} {sc : Scope} {a : Nat} {body : List Stmt} {scope : Scope} {ρ : Lo} {Q : MV → Hp → Prop} {X : EX} {σ : Hp} {p1 p2 p3 p4 : Str} {a1 a2 a3 a4 : MV}
theorem WFn.fn2X (F : FnAt c a [p1, p2] body scope) (h : WSs c ⟨n, hn, scope⟩ body ((ρ0.put p1 a1).put p2 a2) (fun m _ σ' => Q m.val σ') (fun _ C e _ σ' => X false C e σ') σ) : WFn c ⟨n + 1, hn, sc⟩ a [a1, a2] ρ Q X σ := WFn.fnX F rfl h
end
end Mine
open PySem PySem.W PyProof.Rows
namespace Mine
section
variable {prog : Program} {w : World} {A : Around} {E : Value → Shared → Prop} {s : Shared} {Q : Value → Shared → Prop} {K : Frag} {x C : Nat} {o : Obj} {c : Value}
end
section
variable {c : Cx} {i : Ix} {ρ : Lo} {σ : Hp} {X : EX} {Q : MV → Hp → Prop}
theorem WB.pow {m n : Int} (h0 : 0 ≤ n) (h1 : n ≤ 1000000) (h2 : m.natAbs < 2 ^ 64) (h : Q (.int (m ^ n.toNat)) σ) : WB c i .Pow (.int m) (.int n) ρ Q X σ := fun v u iv iu f fr z s _ _ g R => by
  obtain ⟨t, rfl⟩ := iv; obtain ⟨t', rfl⟩ := iu
  exact pow_int_small h0 h1 h2 ⟨.int (m ^ n.toNat), σ, ⟨_, rfl⟩, R.toks _, h⟩
theorem WB.addL {a b : Nat} {xs ys : List MV} (t : Nat) (ha : ListAt σ a xs) (hb : ListAt σ b ys) (hz : xs.length + ys.length ≤ 1000000) (h : ∀ B, Fresh σ B → Q (.ref B) (σ.put B t (.list (xs ++ ys)))) : WB c i .Add (.ref a) (.ref b) ρ Q X σ := fun v u iv iu f fr z s _ _ g R => by
  cases iv; cases iu
  obtain ⟨its, hi, r⟩ := R.isList ha
  obtain ⟨its2, hi2, r2⟩ := R.isList hb
  obtain ⟨m, hn, hm⟩ := R.ns
  have e1 : its.size = xs.length := by rw [r.length]; simp
  have e2 : its2.size = ys.length := by rw [r2.length]; simp
  refine add_arrays (hsz := size_ok (by rw [e1, e2]; exact hz)) (fr_all hn) (news_all s.heap f.env.locals) hi hi2 fun h' F' N' => ?_
  have K' : Kept f.L (fun _ => False) s.heap h' := Kept.of_news hn F' N' fun p hp _ => .tail _ hp
  exact ⟨.ref s.heap.objs.size, _, rfl, R.alloc (mo := .list (xs ++ ys)) (tk := s.toks) t K' (Nat.le_refl _) (fun q => by cases q) ⟨_, 0, (N' (s.heap.objs.size, _) (.head _)).1, by simpa using r.append r2⟩, h _ R.fresh⟩
theorem WE.sliceTo {nm np hi p pos} (t : Nat) (h : WE c i (.Name nm np) ρ (fun a σ₁ => WE c i hi ρ (fun b σ₂ => ∃ l xs, ∃ k : Nat, a = .ref l ∧ b = .int k ∧ ListAt σ₂ l xs ∧ xs.length ≤ 1000000 ∧
    ∀ B, Fresh σ₂ B → Q (.ref B) (σ₂.put B t (.list (xs.take k)))) X σ₁) X σ) : WE c i (.Subscript (.Name nm np) (.Slice Option.none (some hi) Option.none p) pos) ρ Q X σ := fun f fr z s a b g R => by
  refine wpAny_Subscript_list_slice (wuse (h f fr z s a b g R) (fun v s₁ _ σ₁ i1 R₁ h₁ => wpAny_evalPart_none (wpAny_evalPart_some (wpAny_mono (h₁ f fr z s₁ a b g R₁) (fun u s₂ ⟨_, σ₂, i2, R₂, l, xs, k, e1, e2, hl, hz, h₂⟩ => ?_) fun _ _ x => x))) fun _ _ x => x)
  subst e1; subst e2
  cases i1; obtain ⟨tk, rfl⟩ := i2
  obtain ⟨its, hi', r⟩ := R₂.isList hl
  have e : its.size = xs.length := by rw [r.length]; simp
  refine ⟨l, its, Option.none, some (k : Int), rfl, hi', size_ok (by rw [e]; exact hz), .none, .int _ _, ?_⟩
  rw [slicePick_upto']
  have kp : ∀ b o, s₂.heap.get? b = some o → ((s₂.heap.push { cls := .type "slice", data := .fields #[.none, .int (k : Int) tk, .none] }).push { cls := .type "list", data := .seq (its.toList.take k).toArray }).get? b = some o :=
    fun b o e => Heap.get?_push_of_some _ (Heap.get?_push_of_some _ e)
  have hD : ((s₂.heap.push { cls := .type "slice", data := .fields #[.none, .int (k : Int) tk, .none] }).push { cls := .type "list", data := .seq (its.toList.take k).toArray }).get? (s₂.heap.objs.size + 1) = some (listOf (its.toList.take k).toArray 0) := by
    have e1 := Heap.get?_push_size (s₂.heap.push { cls := .type "slice", data := .fields #[.none, .int (k : Int) tk, .none] }) (o := { cls := .type "list", data := .seq (its.toList.take k).toArray }) rfl
    rw [Heap.size_push] at e1
    exact e1
  refine ⟨.ref (s₂.heap.objs.size + 1), _, rfl, R₂.alloc (mo := .list (xs.take k)) (tk := s₂.toks) t (.of_grown kp) (Nat.le_succ _) (fun q => by cases q) ⟨_, _, hD, ?_⟩, h₂ _ fun a p e => Nat.lt_succ_of_lt (R₂.some_lt e)⟩
  simpa using all2_take k r
end
end Mine
open PySem PySem.W PyProof.Rows
namespace Mine
def EqV (c : Cx) (σ : Hp) (k : Nat) (x y : MV) (b : Bool) : Prop := ∀ f ρ fr z s A v u, c.Rel f ρ σ fr z s → x.Is v → y.Is u → A.units + k < cLine → SeqAt.EqAt A s v u b
def RcV (c : Cx) (σ : Hp) (k : Nat) (x y : MV) (b : Bool) : Prop := ∀ f ρ fr z s A v u, c.Rel f ρ σ fr z s → x.Is v → y.Is u → A.units + k < cLine → SeqAt.RcAt A s v u b
def RnV (c : Cx) (σ : Hp) (k : Nat) (x y : MV) (b : Bool) : Prop := ∀ f ρ fr z s A v u, c.Rel f ρ σ fr z s → x.Is v → y.Is u → A.units + k < cLine → SeqAt.RcNeAt A s v u b
abbrev EqVs (c : Cx) (σ : Hp) (k : Nat) (xs ys : List MV) : Prop := All2 (fun x y => EqV c σ k x y true) xs ys
section
variable {c : Cx} {i : Ix} {ρ : Lo} {σ : Hp} {k : Nat}
theorem EqV.int {m n : Int} : EqV c σ k (.int m) (.int n) (m == n) := fun f ρ fr z s A v u R iv iu hu => by obtain ⟨t, rfl⟩ := iv; obtain ⟨t', rfl⟩ := iu; exact .int_int _ _ _ _
theorem EqV.str {m n : Str} : EqV c σ k (.str m) (.str n) (m == n) := fun f ρ fr z s A v u R iv iu hu => by obtain ⟨t, rfl⟩ := iv; obtain ⟨t', rfl⟩ := iu; exact .str_str _ _ _ _
theorem EqV.bool {m n : Bool} : EqV c σ k (.bool m) (.bool n) (m == n) := fun f ρ fr z s A v u R iv iu hu => by cases iv; cases iu; exact .bool_bool _ _
theorem EqV.intT {m n : Int} (h : m = n) : EqV c σ k (.int m) (.int n) true := by have := @EqV.int c σ k m n; rwa [beq_iff_eq.mpr h] at this
theorem EqV.strT {m n : Str} (h : m = n) : EqV c σ k (.str m) (.str n) true := by have := @EqV.str c σ k m n; rwa [beq_iff_eq.mpr h] at this
theorem EqV.boolT {m n : Bool} (h : m = n) : EqV c σ k (.bool m) (.bool n) true := by have := @EqV.bool c σ k m n; rwa [beq_iff_eq.mpr h] at this
theorem EqV.same {a : Nat} : EqV c σ k (.ref a) (.ref a) true := fun f ρ fr z s A v u R iv iu hu => by cases iv; cases iu; exact .same _
theorem EqV.of_rc {a b : Nat} (h : RcV c σ k (.ref a) (.ref b) true) : EqV c σ k (.ref a) (.ref b) true := fun f ρ fr z s A v u R iv iu hu => by
  by_cases q : a = b
  · subst q; exact EqV.same f ρ fr z s A v u R iv iu hu
  · have := h f ρ fr z s A v u R iv iu hu
    cases iv; cases iu; exact .of_refs q this
theorem eqs_at {f : Fm} {fr : Nat → Option Obj} {z s : Shared} {A : Around} {xs ys : List MV} (h : EqVs c σ k xs ys) (R : c.Rel f ρ σ fr z s) (hu : A.units + k < cLine) : ∀ {l m : List Value}, All2 MV.Is xs l → All2 MV.Is ys m → ∀ (j : Nat) (v u : Value), l[j]? = some v → m[j]? = some u → SeqAt.EqAt A s v u true := by
  induction h with
  | nil => intro l m h1 h2 j v u e; cases h1; simp at e
  | cons r _ ih =>
    intro l m h1 h2 j v u e1 e2
    cases h1 with | cons a1 b1 =>
    cases h2 with | cons a2 b2 =>
    cases j with
    | zero => simp at e1 e2; subst e1; subst e2; exact r _ _ _ _ _ _ _ _ R a1 a2 hu
    | succ j => simp at e1 e2; exact ih b1 b2 j v u e1 e2
theorem all_true (n : Nat) : (List.range n).all (fun _ => true) = true := by rw [List.all_eq_true]; exact fun _ _ => rfl
theorem RcV.listT {a b : Nat} {xs ys : List MV} (ha : ListAt σ a xs) (hb : ListAt σ b ys) (h : EqVs c σ k xs ys) : RcV c σ (k + 1) (.ref a) (.ref b) true := fun f ρ fr z s A v u R iv iu hu => by
  cases iv; cases iu
  obtain ⟨its, hi, r⟩ := R.isList ha
  obtain ⟨its2, hi2, r2⟩ := R.isList hb
  have hs : its.size = its2.size := by have := r.length; have := r2.length; have := h.length; simp at *; omega
  have := SeqAt.RcAt.lists (A := A) (e := fun _ => true) hi hi2 hs (by omega) fun j h1 h2 => eqs_at h R (by show A.units + 1 + k < cLine; omega) r r2 j _ _ (by simp [h1]) (by simp [h2])
  rwa [all_true] at this
theorem RcV.listF {a b : Nat} {xs ys : List MV} (ha : ListAt σ a xs) (hb : ListAt σ b ys) (h : xs.length ≠ ys.length) : RcV c σ 1 (.ref a) (.ref b) false := fun f ρ fr z s A v u R iv iu hu => by
  cases iv; cases iu
  obtain ⟨its, hi, r⟩ := R.isList ha
  obtain ⟨its2, hi2, r2⟩ := R.isList hb
  have hs : (its.size != its2.size) = true := by have := r.length; have := r2.length; simp at *; omega
  exact .lists_lengths hi hi2 hs (by omega)
theorem RcV.tupT {a b t t' : Nat} {xs ys : List MV} (ha : σ a = some (t, .tuple xs)) (hb : σ b = some (t', .tuple ys)) (h : EqVs c σ k xs ys) : RcV c σ (k + 1) (.ref a) (.ref b) true := fun f ρ fr z s A v u R iv iu hu => by
  cases iv; cases iu
  obtain ⟨its, hi, r⟩ := Rel.isTuple R ha
  obtain ⟨its2, hi2, r2⟩ := Rel.isTuple R hb
  have hs : its.size = its2.size := by have := r.length; have := r2.length; have := h.length; simp at *; omega
  have := SeqAt.RcAt.tuples (A := A) (e := fun _ => true) hi hi2 (by omega) fun j h1 h2 => eqs_at h R (by show A.units + 1 + k < cLine; omega) r r2 j _ _ (by simp [h1]) (by simp [h2])
  rwa [all_true, hs, beq_self_eq_true] at this
theorem RnV.listT {a b : Nat} {xs ys : List MV} (ha : ListAt σ a xs) (hb : ListAt σ b ys) (h : EqVs c σ k xs ys) : RnV c σ (k + 1) (.ref a) (.ref b) false := fun f ρ fr z s A v u R iv iu hu => by
  cases iv; cases iu
  obtain ⟨its, hi, r⟩ := R.isList ha
  obtain ⟨its2, hi2, r2⟩ := R.isList hb
  have hs : its.size = its2.size := by have := r.length; have := r2.length; have := h.length; simp at *; omega
  have := SeqAt.RcNeAt.lists (A := A) (e := fun _ => true) hi hi2 hs (by omega) fun j h1 h2 => eqs_at h R (by show A.units + 1 + k < cLine; omega) r r2 j _ _ (by simp [h1]) (by simp [h2])
  rwa [all_true] at this
theorem RnV.listF {a b : Nat} {xs ys : List MV} (ha : ListAt σ a xs) (hb : ListAt σ b ys) (h : xs.length ≠ ys.length) : RnV c σ 1 (.ref a) (.ref b) true := fun f ρ fr z s A v u R iv iu hu => by
  cases iv; cases iu
  obtain ⟨its, hi, r⟩ := R.isList ha
  obtain ⟨its2, hi2, r2⟩ := R.isList hb
  have hs : (its.size != its2.size) = true := by have := r.length; have := r2.length; simp at *; omega
  exact .lists_lengths hi hi2 hs (by omega)
variable {X : EX} {Q : MV → Hp → Prop}
theorem WC.eq {x y : MV} {b : Bool} (hn : 1 ≤ i.n) (hk : k ≤ 39) (h : RcV c σ k x y b) (hq : Q (.bool b) σ) : WC c i .Eq x y ρ Q X σ := fun v u iv iu f fr z s _ _ g R =>
  cmp_ofEq (h f ρ fr z s f.A v u R iv iu (by have := g.units; omega) c.prog c.w _ _ ⟨.bool b, σ, rfl, R, hq⟩)
theorem WC.ne {x y : MV} {b : Bool} (hn : 1 ≤ i.n) (hk : k ≤ 39) (h : RnV c σ k x y b) (hq : Q (.bool b) σ) : WC c i .NotEq x y ρ Q X σ := fun v u iv iu f fr z s _ _ g R =>
  cmp_ofNotEq (h f ρ fr z s f.A v u R iv iu (by have := g.units; omega) c.prog c.w _ _ ⟨.bool b, σ, rfl, R, hq⟩)
end
theorem FnAt.unique {c : Cx} {a : Nat} {ps ps' : List Str} {b b' : List Stmt} {s s' : Scope} (F : FnAt c a ps b s) (F' : FnAt c a ps' b' s') : b = b' ∧ s = s' := by
  obtain ⟨oc, od, osl, name, qual, params, dV, kV, doc, pm, an, cdv, ct, e, _⟩ := F.at_
  obtain ⟨oc', od', osl', name', qual', params', dV', kV', doc', pm', an', cdv', ct', e', _⟩ := F'.at_
  have q := Option.some.inj (e.symm.trans e')
  have q2 : Data.func (fnX name qual params b s [] dV kV doc pm an cdv ct) = .func (fnX name' qual' params' b' s' [] dV' kV' doc' pm' an' cdv' ct') := congrArg Obj.data q
  have q3 := Data.func.inj q2
  exact ⟨FuncBody.stmts.inj (congrArg (·.body) q3), congrArg (·.scope) q3⟩
end Mine
open PySem PySem.W PyProof.Rows
namespace Mine
section
variable {c : Cx} {i : Ix} {ρ : Lo} {σ : Hp} {X : EX} {Q : MV → Hp → Prop}
def isSv (k : Str) : Value → Bool
  | .str x _ => x == k
  | _ => false
theorem strs_at {ys : List Str} {vs : List Value} (r : All2 MV.Is (ys.map .str) vs) {m : Nat} {v : Value} (h : vs[m]? = some v) : ∃ y t, ys[m]? = some y ∧ v = .str y t := by
  induction ys generalizing vs m with
  | nil => cases r; simp at h
  | cons y ys ih =>
    cases r with | cons a b =>
    cases m with
    | zero => simp at h; subst h; obtain ⟨t, e⟩ := a; exact ⟨y, t, by simp, e⟩
    | succ m => simp at h; simpa using ih b h
end
theorem WComp.inv {c : Cx} {i : Ix} {x : Str} {elt : Expr} {still : Hp → Prop} {Q : List MV → Hp → Prop} {ρ : Lo} (P : Nat → List MV → Hp → Prop) : ∀ (items : List MV) (j : Nat) {acc : List MV} {σ : Hp}, P j acc σ →
    (∀ k v acc σ, items[k]? = some v → P (j + k) acc σ → still σ ∧ WE c i elt (ρ.put x v) (fun r σ' => P (j + k + 1) (acc ++ [r]) σ') noX σ) → (∀ acc σ, P (j + items.length) acc σ → still σ ∧ Q acc σ) → WComp c i x elt [] still Q ρ items acc σ
  | [], j, acc, σ, h0, _, he => he acc σ h0
  | v :: vs, j, acc, σ, h0, hs, he => by
    obtain ⟨h1, h2⟩ := hs 0 v acc σ rfl h0
    refine ⟨h1, ?_⟩
    refine (if_tt (A := WE c i elt (ρ.put x v) (fun u σ₂ => WComp c i x elt [] still Q ρ vs (acc ++ [u]) σ₂) noX σ) ?_ : ite _ _ (WComp c i x elt [] still Q ρ vs acc σ))
    refine W.mono h2 fun r σ' h3 => WComp.inv P vs (j + 1) h3 (fun k w acc' σ'' hk hp => ?_) fun acc' σ'' hp => he acc' σ'' ?_
    · have e : j + 1 + k = j + (k + 1) := by omega
      rw [e] at hp ⊢
      exact hs (k + 1) w acc' σ'' (by simpa using hk) hp
    · have e : j + (v :: vs).length = j + 1 + vs.length := by rw [List.length_cons]; omega
      rw [e]; exact hp
end Mine
open PySem PySem.W PyProof.Rows
namespace Mine
section
variable {c : Cx} {i : Ix} {ρ : Lo} {σ : Hp} {X : EX} {Q : MV → Hp → Prop}
theorem any_isS {ys : List Str} {vs : List Value} (k : Str) (r : All2 MV.Is (ys.map .str) vs) : vs.any (isSv k) = ys.any (· == k) := by
  induction ys generalizing vs with
  | nil => cases r; rfl
  | cons y ys ih => cases r with | cons a b => obtain ⟨t, rfl⟩ := a; rw [List.any_cons, List.any_cons, ih b]; rfl
theorem WC.inL {a : Nat} {ys : List Str} {k : Str} (hl : ListAt σ a (ys.map .str)) (h : Q (.bool (ys.any (· == k))) σ) : WC c i .In (.str k) (.ref a) ρ Q X σ := fun v u iv iu f fr z s _ _ g R => by
  obtain ⟨t, rfl⟩ := iv
  cases iu
  obtain ⟨its, hi, r⟩ := R.isList hl
  refine SeqAt.in_listAt (isSv k) hi (fun y hy => ?_) ⟨.bool _, σ, rfl, R, ?_⟩
  · obtain ⟨m, hm, rfl⟩ := Array.mem_iff_getElem.mp hy
    obtain ⟨y, t', e1, e2⟩ := strs_at r (m := m) (v := its[m]) (by simp [hm])
    rw [e2]
    exact .str_str _ _ _ _
  · rw [← Array.any_toList, any_isS k r]; exact h
theorem WSub.tuple {value slice a t k xs v} (hs : NoSlice slice) (hl : σ a = some (t, .tuple xs)) (h0 : 0 ≤ k) (h1 : k < 2 ^ 63) (hx : xs[k.toNat]? = some v) (h : Q v σ) : WSub c i value slice (.ref a) (.int k) ρ Q X σ := fun v' u iv iu f fr z s _ _ g R => by
  cases iv; obtain ⟨tk, rfl⟩ := iu
  obtain ⟨its, hi, r⟩ := Rel.isTuple R hl
  obtain ⟨x, hx', is⟩ := r.get hx
  have hlt : k.toNat < its.size := by have := (List.getElem?_eq_some_iff.mp hx').1; simpa using this
  have hT : s.TypeIs (.ref a) "tuple" := by obtain ⟨o, ho, hc, _⟩ := hi; exact ⟨o, ho, hc⟩
  refine tail_any hT PySem.F.slot_tuple_getitem.lookup (getItem_tuple (j := k.toNat) hi (by omega) h1 ?_ (by simpa using hx') ⟨v, σ, is, R, h⟩) (hs _ _)
  unfold seqIndex?
  simp
  omega
end
section
variable {c : Cx} {n : Nat} {hn : Bool} {sc scope : Scope} {x : Str} {ρ : Lo} {σ : Hp}
theorem WE.compA {px : Pos} {elt iter : Expr} {ifs : List Expr} {pos : Pos} {X : EX} {Q : MV → Hp → Prop} (t : Nat) (hh : hn = true) (hs : NotSet iter) (hok : compOk scope sc x = true) (h0 : ρ (".0" : Str) = Option.none)
    (h : WE c ⟨n, hn, sc⟩ iter ρ (fun v σ₁ => ∃ xs still, Iterable σ₁ v xs still ∧ xs.length ≤ 1000000 ∧ WComp c ⟨n, hn, relab scope sc⟩ x elt ifs still (fun vs σ₂ => ∀ D, σ₂ D = Option.none → Q (.ref D) (σ₂.put D t (.list vs))) ρ xs [] σ₁) X σ) :
    WE c ⟨n, hn, sc⟩ (.ListComp elt [⟨.Name x px, iter, ifs, 0⟩] scope pos) ρ Q X σ := WE.comp t hh hs hok h0 h
theorem WS.assignCompA {y : Str} {py px : Pos} {elt iter : Expr} {ifs : List Expr} {pos spos : Pos} {X : SX} {Q : MF → Lo → Hp → Prop} (t : Nat) (hh : hn = true) (hs : NotSet iter) (hok : compOk scope sc x = true) (h0 : ρ (".0" : Str) = Option.none)
    (hy : sc.names.lookup y = some .local) (hline : (py.line == pos.line && !(scope.names.any fun (n, k) => n == y && (k == .local || k == .cell))) = true)
    (h : WE c ⟨n, hn, sc⟩ iter ρ (fun v σ₁ => ∃ xs still, Iterable σ₁ v xs still ∧ xs.length ≤ 1000000 ∧ WComp c ⟨n, hn, relab scope sc⟩ x elt ifs still (fun vs σ₂ => ∀ D, σ₂ D = Option.none → Q .next (ρ.put y (.ref D)) (σ₂.put D t (.list vs))) ρ xs [] σ₁) (X.ex ρ) σ) :
    WS c ⟨n, hn, sc⟩ (.Assign [.Name y py] (.ListComp elt [⟨.Name x px, iter, ifs, 0⟩] scope pos) spos) ρ Q X σ := WS.assignComp t hh hs hok h0 hy hline h
end
end Mine
open PySem PySem.W PyProof.Rows
namespace Mine
end Mine
open PySem PySem.W PyProof.Rows
namespace Mine
section
variable {prog : Program} {w : World} {A : Around} {E : Value → Shared → Prop} {K : Frag} {x C : Nat} {o : Obj}
theorem exc_check {M : Model} {nameV : Value} {Q : Unit → Shared → Prop} {h : Heap} {g : Array GenState} {d : Drawn} {t : Nat} {os : OsState} (X : K.In h) (hx : h.get? x = some o) (hc : o.cls = .ref C) (m2 : mroIn K C (.type "BaseException") = some true) (hq : Q () ⟨h, g, d, t, os⟩) :
    wpAny M A (checkBuiltinCall "BaseException.__getattribute__" ⟨[.ref x, nameV], []⟩) Q E ⟨h, g, d, t, os⟩ := by
  have hk : builtinKind "BaseException.__getattribute__" = some .slot := by decide +kernel
  have hsplit : splitId "BaseException.__getattribute__" = some ("BaseException", "__getattribute__") := by decide +kernel
  have ha := PySem.F.args_bexc_ga (.ref x) nameV
  have L0 : Looks M h (typeOf (.ref x)) (.ref C) := hc ▸ (Looks.ld hx).andThen .now
  have LI : Looks M h (isInstance (.ref x) (.type "BaseException")) true := L0.andThen (looks_mroIn X m2)
  simp only [checkBuiltinCall, hk, hsplit]
  refine wpAny_bind (LI.at ?_)
  repeat (any_goals (first | assumption | wp_step))
theorem exc_class_get {tp : Value} {R : Result → Shared → Prop} {h : Heap} {g : Array GenState} {d : Drawn} {t : Nat} {os : OsState} (X : K.In h) (hx : h.get? x = some o) (hc : o.cls = .ref C) (m1 : mroIn K C (.type "object") = some true) (hq : R (.ok (.ret (.ref C))) ⟨h, g, d, t, os⟩) :
    codeAny (model prog w) A (.call (.builtin "getset_descriptor.__get__") ⟨[.builtin "object.__class__", .ref x, tp], []⟩) R ⟨h, g, d, t, os⟩ := by
  have L0 : Looks (model prog w) h (typeOf (.ref x)) (.ref C) := hc ▸ (Looks.ld hx).andThen .now
  have L1 := looks_mroIn (M := model prog w) X m1
  have hT5 : (⟨h, g, d, t, os⟩ : Shared).TypeIs (.builtin "object.__class__") "getset_descriptor" := PySem.F.typeOf_object_class
  have ho := KF.owner_class
  refine codeAny_call_builtin PySem.F.slot_gs_get.plain PySem.F.entry_gs_get (PySem.F.slot_gs_get.check _ _ _ _ _ _ _ _ hT5 (PySem.F.args_gs_get _ _ _) ?_)
  unfold Builtin.«getset_descriptor.__get__» Builtin.Getset_descriptor.descrGet
  rw [dga_obj]
  refine wpAny_bind (wpAny_pure ?_)
  unfold Builtin.Getset_descriptor.descrGetter Builtin.Getset_descriptor.descrCheckInstance Builtin.Getset_descriptor.descrNameAndClass isInstance
  simp only [KF.owner_class]
  repeat (any_goals (first | assumption | (with_reducible refine L0.at ?_) | (with_reducible refine L1.at ?_) | wp_step))
  refine ⟨Code.quiet_builtin _ (by decide +kernel), codeAny_builtin PySem.F.entry_object_class ?_⟩
  unfold Builtin.«object.__class__» shownTypeOf
  repeat (any_goals (first | assumption | (with_reducible refine L0.at ?_) | wp_step))
theorem exc_class_by {tk : Tok} {fill expr : Bool} {Q : Value → Shared → Prop} {h : Heap} {g : Array GenState} {d : Drawn} {t : Nat} {os : OsState} (X : K.In h) (hx : h.get? x = some o) (hc : o.cls = .ref C) (f1 : findIn K (.ref C) "__getattribute__" = some (some (.builtin "BaseException.__getattribute__"))) (f2 : findIn K (.ref C) "__getattr__" = some none)
    (f3 : findIn K (.ref C) "__class__" = some (some (.builtin "object.__class__"))) (m1 : mroIn K C (.type "object") = some true) (m2 : mroIn K C (.type "BaseException") = some true) (hq : Q (.ref C) ⟨h, g, d, t, os⟩) :
    wpAny (model prog w) A (getAttrBy (.ref x) (.str "__class__" tk) fill expr) Q E ⟨h, g, d, t, os⟩ := by
  have L0 : Looks (model prog w) h (typeOf (.ref x)) (.ref C) := hc ▸ (Looks.ld hx).andThen .now
  have L1 := looks_findIn (M := model prog w) X f1
  have L2 := looks_findIn (M := model prog w) X f2
  have L3 := looks_findIn (M := model prog w) X f3
  have hb := PySem.F.attrBase_ValueError.ga.bind (.ref x)
  have hx0 : (expr && onTheHeap (Value.builtin "BaseException.__getattribute__")) = false := by cases expr <;> rfl
  have hx2 : (Value.builtin "BaseException.__getattribute__" == Value.builtin "object.__getattribute__") = false := by decide +kernel
  have hx1 : (onTheHeap (Value.ref C) && Value.builtin "BaseException.__getattribute__" == Value.builtin "object.__getattribute__") = false := by rw [hx2]; rfl
  repeat (any_goals (first | assumption | (with_reducible refine L0.at ?_) | (with_reducible refine L1.at ?_) | (with_reducible refine L2.at ?_) | (with_reducible refine L3.at ?_) | wp_step))
  refine codeAny_call_builtin PySem.F.attrBase_ValueError.ga.plain PySem.F.entry_bexc_ga (exc_check X hx hc m2 ?_)
  have f5 := PySem.F.typeOf_object_class
  have f6 := PySem.F.slot_gs_get.lookup
  have f7 := PySem.F.slot_gs_set.lookup
  repeat (any_goals (first | assumption | (with_reducible refine L0.at ?_) | (with_reducible refine L3.at ?_) | wp_step))
  refine exc_class_get X hx hc m1 ?_
  repeat (any_goals (first | assumption | wp_step))
theorem exc_class {Q : Option Value → Shared → Prop} {s : Shared} (X : K.In s.heap) (hx : s.heap.get? x = some o) (hc : o.cls = .ref C) (f1 : findIn K (.ref C) "__getattribute__" = some (some (.builtin "BaseException.__getattribute__"))) (f2 : findIn K (.ref C) "__getattr__" = some none)
    (f3 : findIn K (.ref C) "__class__" = some (some (.builtin "object.__class__"))) (m1 : mroIn K C (.type "object") = some true) (m2 : mroIn K C (.type "BaseException") = some true) (hq : Q (some (.ref C)) { s with toks := s.toks + 1 }) :
    wpAny (model prog w) A (getAttr? (.ref x) "__class__") Q E s := by
  obtain ⟨h, g, d, t, os⟩ := s
  unfold getAttr? getAttrBy?
  repeat (any_goals (first | assumption | with_reducible apply exc_class_by X hx hc f1 f2 f3 m1 m2 | wp_step))
structure ExcOk (K : Frag) (C : Nat) : Prop where
  cls : (clsIn K C).isSome = true
  f1 : findIn K (.ref C) "__getattribute__" = some (some (.builtin "BaseException.__getattribute__"))
  f2 : findIn K (.ref C) "__getattr__" = some none
  f3 : findIn K (.ref C) "__class__" = some (some (.builtin "object.__class__"))
  m1 : mroIn K C (.type "object") = some true
  m2 : mroIn K C (.type "BaseException") = some true
theorem kitx_exc (hc : o.cls = .ref C) (ok : ExcOk K C) : KitX K (.ref x) (.ref C) (fun h => h.get? x = some o) where
  ty := fun M h _ p => hc ▸ (Looks.ld p).andThen .now
  it := fun _ _ X _ => by
    have h0 := ok.cls
    unfold clsIn at h0
    split at h0
    · rename_i c' d' cd' sl' ho
      intro A' Q' E' s' k q
      unfold isType loadHead
      exact wpAny_bind (wpAny_loadPart (k _ _ (X _ _ ho)) (wpAny_pure q))
    · cases h0
  ne := fun h tp dd its n sl X htp => by
    have h0 := ok.cls
    refine Bool.eq_false_iff.mpr fun q => ?_
    have e : C = tp := Value.ref.inj (beq_iff_eq.mp q)
    subst e
    unfold clsIn at h0
    split at h0
    · rename_i c' d' cd' sl' ho
      have z := (X _ _ ho).symm.trans htp
      cases z
    · cases h0
  ca := fun X p k => exc_class X p hc ok.f1 ok.f2 ok.f3 ok.m1 ok.m2 k
end
section
variable {c : Cx} {i : Ix} {ρ : Lo} {σ : Hp} {X : EX} {Q : MV → Hp → Prop}
theorem WCall.isExc {e t C : Nat} {m : MV} {cv : Value} {b : Bool} (hm : σ e = some (t, .exc C)) (ok : ExcOk c.K C) (hv : ∀ u, m.Is u → u = cv) (k : kitOne c.K (.ref C) cv = some b) (h : Q (.bool b) σ) : WCall c i (.con (.builtin "isinstance")) [.ref e, m] ρ Q X σ := fun v us iv iu f fr z s _ _ g R => by
  cases iv
  obtain ⟨u1, u2, rfl, i1, i2⟩ := iu.two
  cases i1
  have := hv _ i2
  subst this
  obtain ⟨o, ho, hc, _⟩ := R.objs _ _ _ hm
  exact kia_one (kitx_exc hc ok) (g.inK R) ho k (by intro q; cases q) fun tk => ⟨.bool b, σ, rfl, R.toks _, h⟩
theorem isRef {a : Nat} : ∀ u, (MV.ref a).Is u → u = .ref a := fun u h => h
theorem isCon {v : Value} : ∀ u, (MV.con v).Is u → u = v := fun u h => h
theorem WComp.filter {x : Str} {elt t : Expr} {still : Hp → Prop} {Q : List MV → Hp → Prop} (hst : still σ) {p : MV → Bool} {f : MV → MV} : ∀ {items acc : List MV} (h : ∀ v ∈ items, ∀ K : Bool → Hp → Prop, K (p v) σ → WT c i t (ρ.put x v) K noX σ)
    (h' : ∀ v ∈ items, p v = true → ∀ K : MV → Hp → Prop, K (f v) σ → WE c i elt (ρ.put x v) K noX σ) (hq : Q (acc ++ (items.filter p).map f) σ), WComp c i x elt [t] still Q ρ items acc σ
  | [], acc, _, _, hq => ⟨hst, by simpa using hq⟩
  | v :: vs, acc, h, h', hq => by
    refine ⟨hst, ?_⟩
    refine h v (List.mem_cons_self ..) _ ?_
    have r : ∀ acc', Q (acc' ++ (vs.filter p).map f) σ → WComp c i x elt [t] still Q ρ vs acc' σ := fun acc' hq' => WComp.filter hst (fun u hu => h u (List.mem_cons_of_mem _ hu)) (fun u hu => h' u (List.mem_cons_of_mem _ hu)) hq'
    cases hp : p v with
    | true =>
      refine if_tt (h' v (List.mem_cons_self ..) hp _ (r _ ?_))
      rw [List.filter_cons, if_pos hp] at hq
      simpa using hq
    | false =>
      refine if_ff (r _ ?_)
      rw [List.filter_cons, if_neg (by rw [hp]; decide)] at hq
      exact hq
end
end Mine
open PySem PySem.W PyProof.Rows
namespace Mine
section
variable {c : Cx} {i : Ix} {ρ : Lo} {σ : Hp} {X : EX} {Q : MV → Hp → Prop}
theorem WSub.str {value slice : Expr} {x : Str} {k : Int} {ch : Nat} (hs : NoSlice slice) (h0 : 0 ≤ k) (h1 : k < 2 ^ 63) (hc : x.cps[k.toNat]? = some ch) (h : Q (.str ⟨#[ch]⟩) σ) : WSub c i value slice (.str x) (.int k) ρ Q X σ := fun v' u iv iu f fr z s _ _ g R => by
  obtain ⟨t, rfl⟩ := iv; obtain ⟨tk, rfl⟩ := iu
  have hlt : k.toNat < x.length := by
    have := (Array.getElem?_eq_some_iff.mp hc).1
    exact this
  refine tail_any (typeIs_str s x t) PySem.F.slot_str_getitem.lookup (PySem.P.getItem_str (c := ch) ?_ ?_ ⟨.str ⟨#[ch]⟩, σ, ⟨_, rfl⟩, R.toks _, h⟩) (hs _ _)
  · simp; omega
  · have e : seqIndex? k x.length = some k.toNat := by unfold seqIndex?; simp; omega
    rw [e]; exact hc
end
end Mine
open PySem PySem.W PyProof.Rows
namespace Mine
section
variable {c : Cx} {i : Ix} {ρ : Lo} {σ : Hp} {X : EX} {Q : MV → Hp → Prop}
theorem WCall.listList {a : Nat} {xs : List MV} (t : Nat) (ha : ListAt σ a xs) (hz : xs.length ≤ 1000000) (h : ∀ b, Fresh σ b → Q (.ref b) (σ.put b t (.list xs))) : WCall c i (.con (.type "list")) [.ref a] ρ Q X σ := fun v us iv iu f fr z s _ hh g R => by
  cases iv
  obtain ⟨u, rfl, i1⟩ := iu.one
  cases i1
  obtain ⟨its, hi, r⟩ := R.isList ha
  obtain ⟨o, ho, hc, n, hd⟩ := hi
  exact call_list_seq (hsz := size_ok (by have := r.length; simp at this; omega)) a (.inl rfl) ho hc hd fun h' c' hk hD => ⟨.ref s.heap.objs.size, _, rfl, R.alloc (mo := .list xs) t (.of_grown hk) (Nat.le_refl _) (fun q => by cases q) ⟨its, c', hD, r⟩, h _ R.fresh⟩
end
end Mine
open PySem PySem.W PyProof.Rows
set_option maxRecDepth 100000
namespace Mine
open PySem.SeqAt PySem.MeetsSeq in
open PySem.SeqAt PySem.MeetsSeq in
section
variable {c : Cx} {i : Ix} {ρ : Lo} {σ : Hp} {X : EX} {Q : MV → Hp → Prop} {k : Nat}
theorem WSub.listNeg {value slice : Expr} {a : Nat} {k : Int} {xs : List MV} {v : MV} (hs : NoSlice slice) (hl : ListAt σ a xs) (h0 : k < 0) (h1 : -(xs.length : Int) ≤ k) (h2 : -(2 ^ 63) ≤ k) (hx : xs[(k + xs.length).toNat]? = some v) (h : Q v σ) : WSub c i value slice (.ref a) (.int k) ρ Q X σ := fun v' u iv iu f fr z s _ _ g R => by
  cases iv; obtain ⟨t, rfl⟩ := iu
  obtain ⟨its, hi, r⟩ := R.isList hl
  have e : its.size = xs.length := by rw [r.length]; simp
  obtain ⟨x, hx', is⟩ := r.get hx
  exact tail_any hi.typeIs slot_list_getitem.lookup (wpAny_getItem_list_neg hi h0 (by rw [e]; exact h1) h2 (by rw [e]; simpa using hx') ⟨v, σ, is, R, h⟩) (hs _ _)
end
end Mine
open PySem PySem.W PyProof.Rows
set_option maxRecDepth 100000
namespace Mine
section
variable {c : Cx} {i : Ix} {ρ : Lo} {σ : Hp} {X : EX} {Q : MV → Hp → Prop} {k : Nat}
theorem WCall.lenStr {x : Str} (hz : x.length ≤ 1000000) (h : Q (.int x.length) σ) : WCall c i (.con (.builtin "len")) [.str x] ρ Q X σ := fun v us iv iu f fr z s _ _ g R => by
  cases iv
  obtain ⟨u, rfl, t, rfl⟩ := iu.one
  exact len_str (by omega) ⟨.int x.length, σ, ⟨_, rfl⟩, R.toks _, h⟩
theorem WC.inText {x y : Str} (h : Q (.bool !(Builtin.Str.occurrences x y 0 x.length 1).isEmpty) σ) : WC c i .In (.str y) (.str x) ρ Q X σ := fun v u iv iu f fr z s _ _ g R => by
  obtain ⟨t, rfl⟩ := iv; obtain ⟨t', rfl⟩ := iu
  exact in_str ⟨.bool _, σ, rfl, R, h⟩
theorem all2_swap {α β : Type} {R : α → β → Prop} {l : List α} {m : List β} (h : All2 R l m) : All2 (fun b a => R a b) m l := by
  induction h with
  | nil => exact .nil
  | cons r _ ih => exact .cons r ih
theorem range_all (bs : List Bool) : (List.range bs.length).all (fun j => bs.getD j true) = bs.all id := by
  rw [Bool.eq_iff_iff, List.all_eq_true, List.all_eq_true]
  constructor
  · intro h b hb
    obtain ⟨j, hj⟩ := List.mem_iff_getElem?.mp hb
    have := h j (List.mem_range.mpr (List.getElem?_eq_some_iff.mp hj).1)
    rw [List.getD, hj] at this
    exact this
  · intro h j hj
    have hlt := List.mem_range.mp hj
    rw [List.getD, List.getElem?_eq_getElem hlt]
    exact h _ (List.getElem_mem hlt)
theorem WCall.all {a : Nat} {bs : List Bool} (hn : i.hn = true) (hl : ListAt σ a (bs.map .bool)) (h : Q (.bool (bs.all id)) σ) : WCall c i (.con (.builtin "all")) [.ref a] ρ Q X σ := fun v us iv iu f fr z s _ hh g R => by
  cases iv
  obtain ⟨u, rfl, i1⟩ := iu.one
  cases i1
  obtain ⟨its, hi, r⟩ := R.isList hl
  have hlt : a < s.heap.objs.size := by obtain ⟨o, ho, _⟩ := hi; exact Heap.lt_size ho
  have e : its.size = bs.length := by have := r.length; simp at this; omega
  refine call_all_walk (wpAny_pyIter_list hi ⟨s.heap.objs.size, _, _, its.size, _, _, fun j => bs.getD j true, rfl, Walks.list (A := f.A.in1) (show f.A.in1.handled = none from hh hn) _ a (Nat.ne_of_lt hlt) its, ⟨⟨_, Heap.get?_push_size _ rfl, rfl, rfl⟩, hi.push _⟩, ?_, fun h' tk k => ⟨.bool (bs.all id), σ, ?_, R.grown (tk := tk) fun b o eb => k b o (fun q => ?_) (Heap.get?_push_of_some _ eb), h⟩⟩)
  · intro j v s' Q' E' hv hq
    obtain ⟨b, hb, is⟩ := (all2_swap r).get (by simpa using hv)
    rw [List.getElem?_map] at hb
    obtain ⟨b', hb', rfl⟩ := Option.map_eq_some_iff.mp hb
    have : v = .bool b' := is
    subst this
    refine wpAny_truthy_bool ?_
    have e2 : bs.getD j true = b' := by rw [List.getD, hb']; rfl
    have hq' : Q' (bs.getD j true) s' := hq
    rwa [e2] at hq'
  · show Value.bool _ = _
    rw [e, range_all]
  · rw [List.mem_singleton] at q
    subst q
    exact absurd (Heap.lt_size eb) (Nat.lt_irrefl _)
end
end Mine
open PySem PySem.W PyProof.Rows
set_option maxRecDepth 100000
namespace Mine
section
variable {c : Cx} {i : Ix} {ρ : Lo} {σ : Hp} {X : EX} {Q : MV → Hp → Prop} {k : Nat}
theorem WE.dict1 {ke ve : Expr} {pos : Pos} (t : Nat) (h : ∀ d, Fresh σ d → WE c i ke ρ (fun kv σ₁ => WE c i ve ρ (fun v σ₂ => ∃ k, kv = .str k ∧ σ₂ d = some (t, .sdict []) ∧ Q (.ref d) (σ₂.put d t (.sdict [(k, v)]))) X σ₁) X (σ.put d t (.sdict []))) :
    WE c i (.Dict [some ke] [ve] pos) ρ Q X σ := fun f fr z s a b g R => by
  refine wpAny_Dict_walk (knd := PySem.strKind c.prog c.w) rfl rfl (by simp) (by simp) ?_
  have R₀ := R.alloc (mo := .sdict []) (tk := s.toks) t (.of_grown (grows _ _)) (Nat.le_refl _) (fun q => by cases q) ⟨g.modules R (Nat.le_refl _), _, Heap.get?_push_size _ rfl, keyIs_new _ s.heap⟩
  refine pairTrees_cons_walk ?_
  refine wuse (h _ R.fresh f fr z _ a b g R₀) (fun kv' s₁ kv σ₁ i1 R₁ h₁ => wpAny_mono (h₁ f fr z s₁ a b g R₁) (fun v' s₂ ⟨v, σ₂, i2, R₂, k, e, hd, hq⟩ => pairTrees_nil_walk ?_) fun _ _ x => x) fun _ _ x => x
  subst e
  obtain ⟨tk, rfl⟩ := i1
  obtain ⟨l, kvs, hk, r⟩ := Rel.sdict R₂ hd
  have e0 := r.length
  have : kvs = [] := List.eq_nil_of_length_eq_zero e0.symm
  subst this
  refine ⟨[(k, v')], ⟨PySem.strKind_is _ _ k tk, rfl, trivial⟩, hk, fun h' hk' hs => ⟨.ref s.heap.objs.size, _, rfl, R₂.upd (t' := t) (mo' := .sdict [(k, v)]) hd rfl rfl (.of_same hs (R₂.neL hd)) ⟨l, ?_⟩, hq⟩⟩
  obtain ⟨o, ho, hd'⟩ := Heap.dictOf_iff.mp hk'
  exact ⟨o, ho, _, hd', .cons ⟨rfl, i2⟩ .nil⟩
end
end Mine
open PySem PySem.W PyProof.Rows
set_option maxRecDepth 100000
namespace Mine
inductive Odd (σ : Hp) : MV → Prop
  | int {n} : Odd σ (.int n)
  | none : Odd σ .none
  | bool {b} : Odd σ (.bool b)
  | list {a t xs} : σ a = some (t, .list xs) → Odd σ (.ref a)
section
variable {c : Cx} {i : Ix} {ρ : Lo} {σ : Hp} {X : EX} {Q : MV → Hp → Prop} {k : Nat}
end
end Mine
open PySem PySem.W PyProof.Rows
set_option maxRecDepth 100000
namespace Mine
section
variable {c : Cx} {i : Ix} {ρ : Lo} {σ : Hp} {X : SX} {Q : MF → Lo → Hp → Prop}
theorem WS.while {test : Expr} {body : List Stmt} {pos : Pos} (I : Nat → Lo → Hp → Prop) (k : Nat) (h0 : I k ρ σ)
    (h : ∀ k ρ σ, I k ρ σ → WT c i test ρ (fun b σ₁ => if b then WSs c i body ρ (fun m ρ₂ σ₂ => match m with
      | .next | .cont => ∃ k', k' < k ∧ I k' ρ₂ σ₂
      | .brk => Q .next ρ₂ σ₂
      | .ret u => Q (.ret u) ρ₂ σ₂) noSX σ₁ else Q .next ρ σ₁) noX σ) : WS c i (.While test body [] pos) ρ Q X σ := fun f fr z s a b g R => by
  refine wpAny_While (codeAny_mono (codeAny_whileLoop (R := fun r s' => match r with
    | .ok fl => ∃ m ρ' σ', MF.Is m fl ∧ c.Rel f ρ' σ' fr z s' ∧ Q m ρ' σ'
    | .error e => False) (fun n s' => ∃ ρ' σ', c.Rel f ρ' σ' fr z s' ∧ I n ρ' σ') ?_ k ⟨ρ, σ, R, h0⟩) fun r s' q => by
      cases r with
      | ok fl => exact q
      | error e => exact q.elim)
  rintro n s' ⟨ρ', σ', R', hI⟩
  refine wpAny_mono (h n ρ' σ' hI f fr z s' a b g R') (fun b' s₂ x => ?_) fun _ _ x => noX_elim x
  obtain ⟨bb, σ₁, is, R₁, hb⟩ := x
  cases is
  cases b' with
  | false => exact wpAny_execs_nil ⟨.next, ρ', σ₁, rfl, R₁, hb⟩
  | true =>
    refine wpAny_mono (hb f fr z s₂ a b g R₁) (fun fl s₃ y => ?_) fun _ _ x => noSX_elim x
    obtain ⟨m, ρ₂, σ₂, is, R₂, hm⟩ := y
    cases m with
    | next => cases is; obtain ⟨k', hk, hI'⟩ := hm; exact ⟨k', hk, ρ₂, σ₂, R₂, hI'⟩
    | cont => cases is; obtain ⟨k', hk, hI'⟩ := hm; exact ⟨k', hk, ρ₂, σ₂, R₂, hI'⟩
    | brk => cases is; exact ⟨.next, ρ₂, σ₂, rfl, R₂, hm⟩
    | ret v => obtain ⟨u, rfl, is⟩ := is; exact ⟨.ret v, ρ₂, σ₂, ⟨u, rfl, is⟩, R₂, hm⟩
end
end Mine
open PySem PySem.W PyProof.Rows
set_option maxRecDepth 100000
namespace Mine
section
variable {c : Cx} {i : Ix} {ρ : Lo} {σ : Hp} {X : EX} {Q : MV → Hp → Prop} {k : Nat}
end
end Mine
open PySem PySem.W PyProof.Rows
set_option maxRecDepth 100000
namespace Mine
section
variable {c : Cx} {i : Ix} {ρ : Lo} {σ : Hp} {X : EX} {Q : MV → Hp → Prop} {k : Nat}
end
end Mine
open PySem PySem.W PyProof.Rows
set_option maxRecDepth 100000
namespace Mine
section
variable {prog : Program} {w : World} {A : Around} {E : Value → Shared → Prop} {s : Shared}
end
section
variable {prog : Program} {w : World} {A : Around} {E : Value → Shared → Prop} {s : Shared}
end
section
variable {c : Cx} {i : Ix} {ρ : Lo} {σ : Hp} {X : EX} {Q : MV → Hp → Prop} {k : Nat}
end
end Mine
open PySem PySem.W PyProof.Rows
namespace Mine
name_quick tw16079856061768993874 for S.findZ by S.findZ_eq
name_quick tw8075568018651887793 for S.findZ by S.findZ_eq
name_quick tw809538670930214114 for S.findZ by S.findZ_eq
name_quick tw10416916031126315651 for S.findZ by S.findZ_eq
name_quick tw17894057611463924538 for S.findZ by S.findZ_eq
name_quick tw14979626087600564940 for S.findZ by S.findZ_eq
name_quick tw15870080165447592091 for S.findZ by S.findZ_eq
name_quick tw10790270229335939298 for S.findZ by S.findZ_eq
name_quick tw1309107185065388718 for S.findZ by S.findZ_eq
name_quick tw2874504208813169126 for S.findZ by S.findZ_eq
name_quick tw979798148236843905 for S.findZ by S.findZ_eq
name_quick tw5040193762218094904 for S.findZ by S.findZ_eq
name_quick tw6307075928179450975 for S.findZ by S.findZ_eq
name_quick tw6408288467674066983 for S.findZ by S.findZ_eq
name_quick tw16510406782170844458 for S.findZ by S.findZ_eq
name_quick tw15748488997098860443 for S.findZ by S.findZ_eq
name_quick tw11510521692212771419 for S.findZ by S.findZ_eq
name_quick tw926213455627471399 for S.findZ by S.findZ_eq
name_quick tw12758646416354461303 for S.findZ by S.findZ_eq
name_quick tw18123110421147349612 for S.findZ by S.findZ_eq
name_quick tw15041003319150489328 for S.findZ by S.findZ_eq
name_quick tw1401972060568974870 for S.findZ by S.findZ_eq
name_quick tw1678274191532866277 for S.findZ by S.findZ_eq
name_quick tw17954736447514056666 for S.findZ by S.findZ_eq
name_quick tw18273839248471157720 for S.findZ by S.findZ_eq
name_quick tw10042830170769951172 for S.findZ by S.findZ_eq
name_quick tw16942504070071679284 for S.findZ by S.findZ_eq
name_quick tw13925586954763233925 for S.findZ by S.findZ_eq
name_quick tw389472881494512206 for S.findZ by S.findZ_eq
name_quick tw17001327861769816259 for S.findZ by S.findZ_eq
name_quick tw12825359941727978080 for S.findZ by S.findZ_eq
name_quick tw6580340599500149305 for S.findZ by S.findZ_eq
name_quick tw4388067698380316889 for S.findZ by S.findZ_eq
name_quick tw7670514497116975361 for S.findZ by S.findZ_eq
name_quick tw16223305294053301992 for S.findZ by S.findZ_eq
name_quick tw10308316962582663543 for S.findZ by S.findZ_eq
name_quick tw11270796479367742343 for S.findZ by S.findZ_eq
name_quick tw4292500188555128830 for S.findZ by S.findZ_eq
name_quick tw15880737140895825463 for S.findZ by S.findZ_eq
name_quick tw11707433790658880453 for S.findZ by S.findZ_eq
name_quick tw5770868932273138760 for S.findZ by S.findZ_eq
name_quick tw7619357645376055252 for S.findZ by S.findZ_eq
name_quick tw4921902886906138986 for S.findZ by S.findZ_eq
name_quick tw8542242679196749389 for S.findZ by S.findZ_eq
name_quick tw1523951592034530338 for S.findZ by S.findZ_eq
name_quick tw16413963553889246368 for S.findZ by S.findZ_eq
name_quick tw10939839348159177617 for S.findZ by S.findZ_eq
name_quick tw7504490480230193789 for S.findZ by S.findZ_eq
name_quick tw17244072584429378644 for S.findZ by S.findZ_eq
name_quick tw3932211907712209587 for S.findZ by S.findZ_eq
name_quick tw189603312586018693 for S.findZ by S.findZ_eq
name_quick tw4966893808263662355 for S.findZ by S.findZ_eq
name_quick tw16792545251062261874 for S.findZ by S.findZ_eq
name_quick tw11817470609975844035 for S.findZ by S.findZ_eq
name_quick tw4525517667737911620 for S.findZ by S.findZ_eq
name_quick tw15919542637913265678 for S.findZ by S.findZ_eq
name_quick tw8620020772036689432 for S.findZ by S.findZ_eq
name_quick tw3856783459128436802 for S.findZ by S.findZ_eq
name_quick tw16349216596472256690 for S.findZ by S.findZ_eq
name_quick tw8693227569615203950 for S.findZ by S.findZ_eq
name_quick tw1320183511955256522 for S.findZ by S.findZ_eq
name_quick tw18126140380344562322 for S.findZ by S.findZ_eq
name_quick tw13559156169165276386 for S.findZ by S.findZ_eq
name_quick tw14224011070414065920 for S.findZ by S.findZ_eq
name_quick tw13789449189825218787 for S.findZ by S.findZ_eq
name_quick tw667198328695590252 for S.findZ by S.findZ_eq
name_quick tw2001226814458364393 for S.findZ by S.findZ_eq
name_quick tw2599325451414397859 for S.findZ by S.findZ_eq
name_quick tw15066959818950650227 for S.findZ by S.findZ_eq
name_quick tw15823609455315575823 for S.findZ by S.findZ_eq
name_quick tw9501820088010722379 for S.findZ by S.findZ_eq
name_quick tw313226197891681235 for S.findZ by S.findZ_eq
name_quick tw10227693086864044499 for S.findZ by S.findZ_eq
name_quick tw3209381107111851631 for S.findZ by S.findZ_eq
name_quick tw12659028871203227004 for S.findZ by S.findZ_eq
name_quick tw13615603153576403970 for S.findZ by S.findZ_eq
name_quick tw8902219603052485911 for S.findZ by S.findZ_eq
name_quick tw9219426015542480343 for S.findZ by S.findZ_eq
name_quick tw1258299570235058372 for S.findZ by S.findZ_eq
name_quick tw441327347791068078 for S.findZ by S.findZ_eq
name_quick tw17434858337260393937 for S.findZ by S.findZ_eq
name_quick tw15900120412870309639 for S.findZ by S.findZ_eq
name_quick tw2664551874359636763 for S.findZ by S.findZ_eq
name_quick tw5248340912204065574 for S.findZ by S.findZ_eq
name_quick tw2660918139993853925 for S.findZ by S.findZ_eq
name_quick tw7788680626742099145 for S.findZ by S.findZ_eq
name_quick tw16966814322356759819 for S.findZ by S.findZ_eq
name_quick tw16846860572762119324 for S.findZ by S.findZ_eq
name_quick tw11985326045990495214 for S.findZ by S.findZ_eq
name_quick tw10346894026039390216 for S.findZ by S.findZ_eq
name_quick tw16437185098154296904 for S.findZ by S.findZ_eq
name_quick tw11277716924127702174 for S.findZ by S.findZ_eq
name_quick tw16374537267813192141 for S.findZ by S.findZ_eq
name_quick tw9315938663221665524 for S.findZ by S.findZ_eq
name_quick tw3560238982266916124 for S.findZ by S.findZ_eq
name_quick tw4224760802259116069 for S.findZ by S.findZ_eq
name_quick tw4172830789200971933 for S.findZ by S.findZ_eq
name_quick tw2354101950205528012 for S.findZ by S.findZ_eq
name_quick tw2670528217467546775 for S.findZ by S.findZ_eq
name_quick tw16176465441171805009 for S.findZ by S.findZ_eq
name_quick tw16548257151911338427 for S.findZ by S.findZ_eq
name_quick tw16697116713213952808 for S.findZ by S.findZ_eq
name_quick tw704327219915372674 for S.findZ by S.findZ_eq
name_quick tw12635813782599140982 for S.findZ by S.findZ_eq
name_quick tw17394056326795013819 for S.findZ by S.findZ_eq
name_quick tw2378363196638174374 for S.findZ by S.findZ_eq
name_quick tw13471461260053382970 for S.findZ by S.findZ_eq
name_quick tw1886563365779066154 for S.findZ by S.findZ_eq
name_quick tw3315324234476444515 for S.findZ by S.findZ_eq
name_quick tw14209830616999942402 for S.findZ by S.findZ_eq
name_quick tw17828083071136270317 for S.findZ by S.findZ_eq
name_quick tw12850107946570832962 for S.findZ by S.findZ_eq
name_quick tw2902314222560053993 for S.findZ by S.findZ_eq
name_quick tw15542503528162795033 for S.findZ by S.findZ_eq
name_quick tw4039474712603431140 for S.findZ by S.findZ_eq
name_quick tw8595292554425487202 for S.findZ by S.findZ_eq
name_quick tw11588390666370768167 for S.findZ by S.findZ_eq
name_quick tw8860024209350480642 for S.findZ by S.findZ_eq
name_quick tw2719445374943340272 for S.findZ by S.findZ_eq
name_quick tw10670733350059645105 for S.findZ by S.findZ_eq
name_quick tw14973007898608030118 for S.findZ by S.findZ_eq
name_quick tw8989982439271903415 for S.findZ by S.findZ_eq
name_quick tw11790162104776037713 for S.findZ by S.findZ_eq
name_quick tw383695940523520267 for S.findZ by S.findZ_eq
name_quick tw10833955939284561965 for S.findZ by S.findZ_eq
name_quick tw16494616584097029746 for S.findZ by S.findZ_eq
name_quick tw1708024556718086227 for S.findZ by S.findZ_eq
name_quick tw13512673800721320934 for S.findZ by S.findZ_eq
name_quick tw12635297910168745909 for S.findZ by S.findZ_eq
name_quick tw3880421473898291048 for S.findZ by S.findZ_eq
name_quick tw7483462131439158144 for S.findZ by S.findZ_eq
name_quick tw9626621113073979434 for S.findZ by S.findZ_eq
name_quick tw18211773271919218964 for S.findZ by S.findZ_eq
name_quick tw17730448691065144110 for S.findZ by S.findZ_eq
name_quick tw8450942572126056277 for S.findZ by S.findZ_eq
name_quick tw9821368406582625841 for S.findZ by S.findZ_eq
name_quick tw9674257727999782656 for S.findZ by S.findZ_eq
name_quick tw8459811325457737761 for S.findZ by S.findZ_eq
name_quick tw10352308551163946355 for S.findZ by S.findZ_eq
name_quick tw7392212959928792091 for S.findZ by S.findZ_eq
name_quick tw8642067239939848140 for S.findZ by S.findZ_eq
name_quick tw18263319221461684349 for S.findZ by S.findZ_eq
name_quick tw5976474108018559520 for S.findZ by S.findZ_eq
name_quick tw12393455550290869266 for S.findZ by S.findZ_eq
name_quick tw4904739604578439355 for S.findZ by S.findZ_eq
name_quick tw9759809726879904816 for S.findZ by S.findZ_eq
name_quick tw17274371674624000324 for S.findZ by S.findZ_eq
name_quick tw11953951171794560508 for S.findZ by S.findZ_eq
name_quick tw9787396351842916947 for S.findZ by S.findZ_eq
name_quick tw1041845030581493396 for S.findZ by S.findZ_eq
name_quick tw1139862187096482527 for S.findZ by S.findZ_eq
name_quick tw9376109419431680627 for S.findZ by S.findZ_eq
name_quick tw17552769576498331613 for S.findZ by S.findZ_eq
name_quick tw16752143609539240740 for S.findZ by S.findZ_eq
name_quick tw2422670821966735624 for S.findZ by S.findZ_eq
name_quick tw1735497430108182060 for S.findZ by S.findZ_eq
name_quick tw12488000419048109807 for S.findZ by S.findZ_eq
name_quick tw6434138532213402376 for S.findZ by S.findZ_eq
name_quick tw3039592710220408265 for S.findZ by S.findZ_eq
name_quick tw13759679279233594173 for S.findZ by S.findZ_eq
name_quick tw16504061995083234566 for S.findZ by S.findZ_eq
name_quick tw16741492637210864865 for S.findZ by S.findZ_eq
name_quick tw1402947280878808549 for S.findZ by S.findZ_eq
name_quick tw12172078356533094185 for S.findZ by S.findZ_eq
name_quick tw2905824091091238844 for S.findZ by S.findZ_eq
name_quick tw5701610774189311196 for S.findZ by S.findZ_eq
name_quick tw5732905514179830355 for S.findZ by S.findZ_eq
name_quick tw18416463498863911781 for S.findZ by S.findZ_eq
name_quick tw16439824349840649037 for S.findZ by S.findZ_eq
name_quick tw16296994325663420285 for S.findZ by S.findZ_eq
name_quick tw10045867985992453528 for S.findZ by S.findZ_eq
name_quick tw13981391230805400906 for S.findZ by S.findZ_eq
name_quick tw15480198773659482676 for S.findZ by S.findZ_eq
name_quick tw15168306246750427876 for S.findZ by S.findZ_eq
name_quick tw932993149863042379 for S.findZ by S.findZ_eq
name_quick tw8098380416015320538 for S.findZ by S.findZ_eq
name_quick tw3778451253796500701 for S.findZ by S.findZ_eq
name_quick tw3619232141914619222 for S.findZ by S.findZ_eq
name_quick tw6589095468515690095 for S.findZ by S.findZ_eq
name_quick tw8424611434330503625 for S.findZ by S.findZ_eq
name_quick tw16018607276475445134 for S.findZ by S.findZ_eq
name_quick tw3282434896037501709 for S.findZ by S.findZ_eq
name_quick tw16593013826814733010 for S.findZ by S.findZ_eq
name_quick tw1414301608579184545 for S.findZ by S.findZ_eq
name_quick tw18220123701641295943 for S.findZ by S.findZ_eq
name_quick tw219737044198020058 for S.findZ by S.findZ_eq
name_quick tw17863021456227041891 for S.findZ by S.findZ_eq
name_quick tw17497748084772794779 for S.findZ by S.findZ_eq
name_quick tw15263041282635125899 for S.findZ by S.findZ_eq
name_quick tw136631920214876835 for S.findZ by S.findZ_eq
name_quick tw2627984346626558326 for S.findZ by S.findZ_eq
name_quick tw4302124980754421698 for S.findZ by S.findZ_eq
name_quick tw8206430501311747189 for S.findZ by S.findZ_eq
name_quick tw8753696776887207221 for S.findZ by S.findZ_eq
name_quick tw8603108125212654177 for S.findZ by S.findZ_eq
name_quick tw4797165386629745026 for S.findZ by S.findZ_eq
name_quick tw16241802466949684156 for S.findZ by S.findZ_eq
name_quick tw10029231156530900338 for S.findZ by S.findZ_eq
name_quick tw17532718790514356516 for S.findZ by S.findZ_eq
name_quick tw14126943448341045398 for S.findZ by S.findZ_eq
name_quick tw14714103240675001986 for S.findZ by S.findZ_eq
name_quick tw4090926877573551719 for S.findZ by S.findZ_eq
name_quick tw17069979004554194336 for S.findZ by S.findZ_eq
name_quick tw10948738476641704880 for S.findZ by S.findZ_eq
name_quick tw16349804527192203551 for S.findZ by S.findZ_eq
name_quick tw13016732220969518872 for S.findZ by S.findZ_eq
name_quick tw4980102563643897964 for S.findZ by S.findZ_eq
name_quick tw4071324889030633612 for S.findZ by S.findZ_eq
name_quick tw13678640442995254988 for S.findZ by S.findZ_eq
name_quick tw392140993173905013 for S.findZ by S.findZ_eq
name_quick tw9564595351457756722 for S.findZ by S.findZ_eq
name_quick tw7745614565497352828 for S.findZ by S.findZ_eq
name_quick tw13317431791736044220 for S.findZ by S.findZ_eq
name_quick tw4552823106982906706 for S.findZ by S.findZ_eq
name_quick tw16916688483869632129 for S.findZ by S.findZ_eq
name_quick tw9504726810853072989 for S.findZ by S.findZ_eq
name_quick tw17111948838632640456 for S.findZ by S.findZ_eq
name_quick tw2193789692954389824 for S.findZ by S.findZ_eq
name_quick tw6213141578215901147 for S.findZ by S.findZ_eq
name_quick tw2948108419219029167 for S.findZ by S.findZ_eq
name_quick tw7401281599722004195 for S.findZ by S.findZ_eq
name_quick tw1749818173716722547 for S.findZ by S.findZ_eq
name_quick tw10323183001455561277 for S.findZ by S.findZ_eq
name_quick tw2408619945344806742 for S.findZ by S.findZ_eq
name_quick tw6550987210724342151 for S.findZ by S.findZ_eq
name_quick tw14778209649434054790 for S.findZ by S.findZ_eq
name_quick tw13642483538084851733 for S.findZ by S.findZ_eq
name_quick tw5697894365363955025 for S.findZ by S.findZ_eq
name_quick tw14214133299417103183 for S.findZ by S.findZ_eq
name_quick tw17164873540382356111 for S.findZ by S.findZ_eq
name_quick tw12329403913580668285 for S.findZ by S.findZ_eq
name_quick tw11306939235166856333 for S.findZ by S.findZ_eq
name_quick tw8224813933742928703 for S.findZ by S.findZ_eq
name_quick tw5068434257544371817 for S.findZ by S.findZ_eq
name_quick tw9676229304581654039 for S.findZ by S.findZ_eq
name_quick tw3264259588550801142 for S.findZ by S.findZ_eq
name_quick tw17520869792638436183 for S.findZ by S.findZ_eq
name_quick tw15902184279288820625 for S.findZ by S.findZ_eq
name_quick tw3436264866546951355 for S.findZ by S.findZ_eq
name_quick tw716658179208862652 for S.findZ by S.findZ_eq
name_quick tw12022618010286034681 for S.findZ by S.findZ_eq
name_quick tw3470799630455053000 for S.findZ by S.findZ_eq
name_quick tw3442601649717412197 for S.findZ by S.findZ_eq
name_quick tw15034313371233782410 for S.findZ by S.findZ_eq
name_quick tw17341736924252097559 for S.findZ by S.findZ_eq
name_quick tw2711585505577850959 for S.findZ by S.findZ_eq
name_quick tw2460228577881660442 for S.findZ by S.findZ_eq
name_quick tw4936483359421988267 for S.findZ by S.findZ_eq
name_quick tw11838138170533393997 for S.findZ by S.findZ_eq
name_quick tw3093977132361051618 for S.findZ by S.findZ_eq
name_quick tw9979284746773624096 for S.findZ by S.findZ_eq
name_quick tw8719427161674164953 for S.findZ by S.findZ_eq
name_quick tw16417370028952169744 for S.findZ by S.findZ_eq
name_quick tw9151444980202551346 for S.findZ by S.findZ_eq
name_quick tw7286323032743288035 for S.findZ by S.findZ_eq
name_quick tw3386650904741475044 for S.findZ by S.findZ_eq
name_quick tw10706342367453228570 for S.findZ by S.findZ_eq
name_quick tw10470071008263537045 for S.findZ by S.findZ_eq
name_quick tw7250012664060256230 for S.findZ by S.findZ_eq
name_quick tw14896874001708588922 for S.findZ by S.findZ_eq
name_quick tw3424931102881643321 for S.findZ by S.findZ_eq
name_quick tw5200128776193632040 for S.findZ by S.findZ_eq
name_quick tw11445135464325071761 for S.findZ by S.findZ_eq
name_quick tw721709456127091705 for S.findZ by S.findZ_eq
name_quick tw9300948228871686676 for S.findZ by S.findZ_eq
name_quick tw15195428891847259777 for S.findZ by S.findZ_eq
name_quick tw10057510723706494237 for S.findZ by S.findZ_eq
name_quick tw18260038339965228139 for S.findZ by S.findZ_eq
name_quick tw7650934615059315214 for S.findZ by S.findZ_eq
name_quick tw9931943479562821362 for S.findZ by S.findZ_eq
name_quick tw7299303143086499733 for S.findZ by S.findZ_eq
name_quick tw11518781747449614426 for S.findZ by S.findZ_eq
name_quick tw10508251915553800215 for S.findZ by S.findZ_eq
name_quick tw17803129079492736432 for S.findZ by S.findZ_eq
name_quick tw14420389602138693270 for S.findZ by S.findZ_eq
name_quick tw3327986453032591115 for S.findZ by S.findZ_eq
name_quick tw17554001833073541016 for S.findZ by S.findZ_eq
name_quick tw17964007177503468958 for S.findZ by S.findZ_eq
name_quick tw13252181687094117063 for S.findZ by S.findZ_eq
name_quick tw2718901123391026995 for S.findZ by S.findZ_eq
name_quick tw4434333111790514575 for S.findZ by S.findZ_eq
name_quick tw13254397897704925713 for S.findZ by S.findZ_eq
name_quick tw5032809538720368765 for S.findZ by S.findZ_eq
name_quick tw7276740287692124622 for S.findZ by S.findZ_eq
name_quick tw973662469405803806 for S.findZ by S.findZ_eq
name_quick tw6135381517318000843 for S.findZ by S.findZ_eq
name_quick tw12898947447245864913 for S.findZ by S.findZ_eq
name_quick tw16942194440817826258 for S.findZ by S.findZ_eq
name_quick tw9236875199018929784 for S.findZ by S.findZ_eq
name_quick tw1638017585896720355 for S.findZ by S.findZ_eq
name_quick tw5758256569797452207 for S.findZ by S.findZ_eq
name_quick tw607167704815816724 for S.findZ by S.findZ_eq
name_quick tw16406328271908756883 for S.findZ by S.findZ_eq
name_quick tw7140130562030077042 for S.findZ by S.findZ_eq
name_quick tw1962928258387122110 for S.findZ by S.findZ_eq
name_quick tw12981051755390344553 for S.findZ by S.findZ_eq
name_quick tw10500077913531017323 for S.findZ by S.findZ_eq
name_quick tw8579058602437062094 for S.findZ by S.findZ_eq
name_quick tw11317593695737139937 for S.findZ by S.findZ_eq
name_quick tw15007238320947547705 for S.findZ by S.findZ_eq
name_quick tw7496433998918960881 for S.findZ by S.findZ_eq
name_quick tw1537898542681612871 for S.findZ by S.findZ_eq
name_quick tw5345256250457102556 for S.findZ by S.findZ_eq
name_quick tw8119918657739134586 for S.findZ by S.findZ_eq
name_quick tw16350708796919097252 for S.findZ by S.findZ_eq
name_quick tw5832503352825792928 for S.findZ by S.findZ_eq
name_quick tw13335737130258781183 for S.findZ by S.findZ_eq
name_quick tw5706481520468235054 for S.findZ by S.findZ_eq
name_quick tw878741703135273975 for S.findZ by S.findZ_eq
name_quick tw4681523508651956083 for S.findZ by S.findZ_eq
name_quick tw16414604833108395602 for S.findZ by S.findZ_eq
name_quick tw13236226663087606529 for S.findZ by S.findZ_eq
name_quick tw282004115355043989 for S.findZ by S.findZ_eq
name_quick tw460243522976405022 for S.findZ by S.findZ_eq
name_quick tw9951705424602377420 for S.findZ by S.findZ_eq
name_quick tw14326252917377295143 for S.findZ by S.findZ_eq
name_quick tw17352973434858128600 for S.findZ by S.findZ_eq
name_quick tw11964429278604863157 for S.findZ by S.findZ_eq
set_option maxRecDepth 100000 in
set_option maxHeartbeats 8000000 in
open_top hd for PySem.Challenge.rw_uf030004_13
end Mine
open PySem PySem.W PyProof.Rows
set_option maxRecDepth 100000
set_option maxHeartbeats 4000000
namespace Mine
abbrev a_is_whole : Nat := 142
abbrev a_step : Nat := 149
abbrev a_is_name : Nat := 287
abbrev a_law_cell_at : Nat := 411
abbrev a_law_rows_by : Nat := 418
abbrev a_law_house_by : Nat := 425
abbrev a_law_stirred : Nat := 430
abbrev a_law_told : Nat := 435
abbrev a_law_refused : Nat := 442
abbrev a_law_ahead : Nat := 447
abbrev a_law : Nat := 452
abbrev a_ShareError : Nat := 24
abbrev a_BadShare : Nat := 37
abbrev a_BadName : Nat := 49
abbrev a_Twice : Nat := 61
abbrev a_NoTeam : Nat := 73
abbrev a_NoName : Nat := 85
abbrev a_NotHand : Nat := 97
abbrev a_NotEmpty : Nat := 109
abbrev a_BadCount : Nat := 121
abbrev a_NoDeed : Nat := 133
abbrev a_Sharer : Nat := 166
abbrev a_Wheel : Nat := 278
abbrev a_House : Nat := 400
abbrev m_Sharer_init : Nat := 163
abbrev m_Wheel_init : Nat := 184
abbrev m_Wheel_need : Nat := 191
abbrev m_Wheel_enter : Nat := 198
abbrev m_Wheel_leave : Nat := 205
abbrev m_Wheel_reshare : Nat := 212
abbrev m_Wheel_wake : Nat := 219
abbrev m_Wheel_rest : Nat := 226
abbrev m_Wheel_whose : Nat := 233
abbrev m_Wheel_turn : Nat := 240
abbrev m_Wheel_names : Nat := 247
abbrev m_Wheel_clock_of : Nat := 254
abbrev m_Wheel_share_of : Nat := 261
abbrev m_Wheel_is_ready : Nat := 268
abbrev m_Wheel_copied : Nat := 275
abbrev m_House_init : Nat := 301
abbrev m_House_is_team : Nat := 308
abbrev m_House_need : Nat := 315
abbrev m_House_need_hand : Nat := 322
abbrev m_House_stand : Nat := 329
abbrev m_House_team : Nat := 336
abbrev m_House_hand : Nat := 343
abbrev m_House_leave : Nat := 350
abbrev m_House_reshare : Nat := 357
abbrev m_House_wake : Nat := 364
abbrev m_House_rest : Nat := 371
abbrev m_House_deal : Nat := 378
abbrev m_House_copied : Nat := 385
abbrev m_House_coming : Nat := 390
abbrev m_House_wheel_of : Nat := 397
noncomputable def tab : Tab where
  glob := [(("is_whole" : Str), .ref a_is_whole), (("step" : Str), .ref a_step), (("is_name" : Str), .ref a_is_name), (("_law_cell_at" : Str), .ref a_law_cell_at), (("_law_rows_by" : Str), .ref a_law_rows_by), (("_law_house_by" : Str), .ref a_law_house_by), (("_law_stirred" : Str), .ref a_law_stirred), (("_law_told" : Str), .ref a_law_told), (("_law_refused" : Str), .ref a_law_refused), (("_law_ahead" : Str), .ref a_law_ahead), (("law" : Str), .ref a_law), (("ShareError" : Str), .ref a_ShareError), (("BadShare" : Str), .ref a_BadShare), (("BadName" : Str), .ref a_BadName), (("Twice" : Str), .ref a_Twice), (("NoTeam" : Str), .ref a_NoTeam), (("NoName" : Str), .ref a_NoName), (("NotHand" : Str), .ref a_NotHand), (("NotEmpty" : Str), .ref a_NotEmpty), (("BadCount" : Str), .ref a_BadCount), (("NoDeed" : Str), .ref a_NoDeed), (("Sharer" : Str), .ref a_Sharer), (("Wheel" : Str), .ref a_Wheel), (("House" : Str), .ref a_House), (("ROUND" : Str), .int 27720), (("MOST" : Str), .int 12), (("TOP" : Str), .str ""), (("LETTERS" : Str), .str "abcdefghijklmnopqrstuvwxyz"), (("MOST_LETTERS" : Str), .int 8), (("MOST_COMING" : Str), .int 999), (("ValueError" : Str), .con (.type "ValueError")), (("all" : Str), .con (.builtin "all")), (("bool" : Str), .con (.type "bool")), (("int" : Str), .con (.type "int")), (("isinstance" : Str), .con (.builtin "isinstance")), (("len" : Str), .con (.builtin "len")), (("list" : Str), .con (.type "list")), (("max" : Str), .con (.builtin "max")), (("range" : Str), .con (.type "range")), (("str" : Str), .con (.type "str"))]
  meth := [((a_Sharer, ("__init__" : Str)), m_Sharer_init), ((a_Wheel, ("__init__" : Str)), m_Wheel_init), ((a_Wheel, ("need" : Str)), m_Wheel_need), ((a_Wheel, ("enter" : Str)), m_Wheel_enter), ((a_Wheel, ("leave" : Str)), m_Wheel_leave), ((a_Wheel, ("reshare" : Str)), m_Wheel_reshare), ((a_Wheel, ("wake" : Str)), m_Wheel_wake), ((a_Wheel, ("rest" : Str)), m_Wheel_rest), ((a_Wheel, ("whose" : Str)), m_Wheel_whose), ((a_Wheel, ("turn" : Str)), m_Wheel_turn), ((a_Wheel, ("names" : Str)), m_Wheel_names), ((a_Wheel, ("clock_of" : Str)), m_Wheel_clock_of), ((a_Wheel, ("share_of" : Str)), m_Wheel_share_of), ((a_Wheel, ("is_ready" : Str)), m_Wheel_is_ready), ((a_Wheel, ("copied" : Str)), m_Wheel_copied), ((a_House, ("__init__" : Str)), m_House_init), ((a_House, ("is_team" : Str)), m_House_is_team), ((a_House, ("need" : Str)), m_House_need), ((a_House, ("need_hand" : Str)), m_House_need_hand), ((a_House, ("stand" : Str)), m_House_stand), ((a_House, ("team" : Str)), m_House_team), ((a_House, ("hand" : Str)), m_House_hand), ((a_House, ("leave" : Str)), m_House_leave), ((a_House, ("reshare" : Str)), m_House_reshare), ((a_House, ("wake" : Str)), m_House_wake), ((a_House, ("rest" : Str)), m_House_rest), ((a_House, ("deal" : Str)), m_House_deal), ((a_House, ("copied" : Str)), m_House_copied), ((a_House, ("coming" : Str)), m_House_coming), ((a_House, ("wheel_of" : Str)), m_House_wheel_of)]
  fld := [(a_Sharer, ("share" : Str)), (a_Sharer, ("clock" : Str)), (a_Sharer, ("ready" : Str)), (a_Wheel, ("past" : Str)), (a_Wheel, ("sharers" : Str)), (a_House, ("wheels" : Str)), (a_House, ("above" : Str))]
  init := [(a_Sharer, m_Sharer_init), (a_Wheel, m_Wheel_init), (a_House, m_House_init)]
  fns := [a_is_whole, a_step, a_is_name, a_law_cell_at, a_law_rows_by, a_law_house_by, a_law_stirred, a_law_told, a_law_refused, a_law_ahead, a_law]
noncomputable def cx (w : World) (mean : ExcName → Option Value) (mg mb : Str → Option Value) : Cx := tab.cx PySem.Challenge.rw_uf030004_13.row.prog w (hd.heap_39 w.params) hd.view_39 (looseW hd.view_39 []) mean mg mb
theorem cx_ok (w : World) (mean : ExcName → Option Value) (mg mb : Str → Option Value) : CxOk (cx w mean mg mb) := Tab.ok
  (all_cons (globRef (by kernel_rfl) (by kernel_rfl)) (all_cons (globRef (by kernel_rfl) (by kernel_rfl)) (all_cons (globRef (by kernel_rfl) (by kernel_rfl)) (all_cons (globRef (by kernel_rfl) (by kernel_rfl)) (all_cons (globRef (by kernel_rfl) (by kernel_rfl)) (all_cons (globRef (by kernel_rfl) (by kernel_rfl)) (all_cons (globRef (by kernel_rfl) (by kernel_rfl)) (all_cons (globRef (by kernel_rfl) (by kernel_rfl)) (all_cons (globRef (by kernel_rfl) (by kernel_rfl)) (all_cons (globRef (by kernel_rfl) (by kernel_rfl)) (all_cons (globRef (by kernel_rfl) (by kernel_rfl)) (all_cons (globRef (by kernel_rfl) (by kernel_rfl)) (all_cons (globRef (by kernel_rfl) (by kernel_rfl)) (all_cons (globRef (by kernel_rfl) (by kernel_rfl)) (all_cons (globRef (by kernel_rfl) (by kernel_rfl)) (all_cons (globRef (by kernel_rfl) (by kernel_rfl)) (all_cons (globRef (by kernel_rfl) (by kernel_rfl)) (all_cons (globRef (by kernel_rfl) (by kernel_rfl)) (all_cons (globRef (by kernel_rfl) (by kernel_rfl)) (all_cons (globRef (by kernel_rfl) (by kernel_rfl)) (all_cons (globRef (by kernel_rfl) (by kernel_rfl)) (all_cons (globRef (by kernel_rfl) (by kernel_rfl)) (all_cons (globRef (by kernel_rfl) (by kernel_rfl)) (all_cons (globRef (by kernel_rfl) (by kernel_rfl)) (all_cons (globInt (t := _) (by kernel_rfl) (by rfl)) (all_cons (globInt (t := _) (by kernel_rfl) (by rfl)) (all_cons (globStr (t := _) (by kernel_rfl) (by rfl)) (all_cons (globStr (t := _) (by kernel_rfl) (by rfl)) (all_cons (globInt (t := _) (by kernel_rfl) (by rfl)) (all_cons (globInt (t := _) (by kernel_rfl) (by rfl)) (all_cons (globBuiltin (by kernel_rfl) (by kernel_rfl) (by decide +kernel) (by kernel_rfl)) (all_cons (globBuiltin (by kernel_rfl) (by kernel_rfl) (by decide +kernel) (by kernel_rfl)) (all_cons (globBuiltin (by kernel_rfl) (by kernel_rfl) (by decide +kernel) (by kernel_rfl)) (all_cons (globBuiltin (by kernel_rfl) (by kernel_rfl) (by decide +kernel) (by kernel_rfl)) (all_cons (globBuiltin (by kernel_rfl) (by kernel_rfl) (by decide +kernel) (by kernel_rfl)) (all_cons (globBuiltin (by kernel_rfl) (by kernel_rfl) (by decide +kernel) (by kernel_rfl)) (all_cons (globBuiltin (by kernel_rfl) (by kernel_rfl) (by decide +kernel) (by kernel_rfl)) (all_cons (globBuiltin (by kernel_rfl) (by kernel_rfl) (by decide +kernel) (by kernel_rfl)) (all_cons (globBuiltin (by kernel_rfl) (by kernel_rfl) (by decide +kernel) (by kernel_rfl)) (all_cons (globBuiltin (by kernel_rfl) (by kernel_rfl) (by decide +kernel) (by kernel_rfl)) (all_nil)))))))))))))))))))))))))))))))))))))))))
  (all_cons (⟨by kernel_rfl, by kernel_rfl, by kernel_rfl, by kernel_rfl⟩) (all_cons (⟨by kernel_rfl, by kernel_rfl, by kernel_rfl, by kernel_rfl⟩) (all_cons (⟨by kernel_rfl, by kernel_rfl, by kernel_rfl, by kernel_rfl⟩) (all_cons (⟨by kernel_rfl, by kernel_rfl, by kernel_rfl, by kernel_rfl⟩) (all_cons (⟨by kernel_rfl, by kernel_rfl, by kernel_rfl, by kernel_rfl⟩) (all_cons (⟨by kernel_rfl, by kernel_rfl, by kernel_rfl, by kernel_rfl⟩) (all_cons (⟨by kernel_rfl, by kernel_rfl, by kernel_rfl, by kernel_rfl⟩) (all_cons (⟨by kernel_rfl, by kernel_rfl, by kernel_rfl, by kernel_rfl⟩) (all_cons (⟨by kernel_rfl, by kernel_rfl, by kernel_rfl, by kernel_rfl⟩) (all_cons (⟨by kernel_rfl, by kernel_rfl, by kernel_rfl, by kernel_rfl⟩) (all_cons (⟨by kernel_rfl, by kernel_rfl, by kernel_rfl, by kernel_rfl⟩) (all_cons (⟨by kernel_rfl, by kernel_rfl, by kernel_rfl, by kernel_rfl⟩) (all_cons (⟨by kernel_rfl, by kernel_rfl, by kernel_rfl, by kernel_rfl⟩) (all_cons (⟨by kernel_rfl, by kernel_rfl, by kernel_rfl, by kernel_rfl⟩) (all_cons (⟨by kernel_rfl, by kernel_rfl, by kernel_rfl, by kernel_rfl⟩) (all_cons (⟨by kernel_rfl, by kernel_rfl, by kernel_rfl, by kernel_rfl⟩) (all_cons (⟨by kernel_rfl, by kernel_rfl, by kernel_rfl, by kernel_rfl⟩) (all_cons (⟨by kernel_rfl, by kernel_rfl, by kernel_rfl, by kernel_rfl⟩) (all_cons (⟨by kernel_rfl, by kernel_rfl, by kernel_rfl, by kernel_rfl⟩) (all_cons (⟨by kernel_rfl, by kernel_rfl, by kernel_rfl, by kernel_rfl⟩) (all_cons (⟨by kernel_rfl, by kernel_rfl, by kernel_rfl, by kernel_rfl⟩) (all_cons (⟨by kernel_rfl, by kernel_rfl, by kernel_rfl, by kernel_rfl⟩) (all_cons (⟨by kernel_rfl, by kernel_rfl, by kernel_rfl, by kernel_rfl⟩) (all_cons (⟨by kernel_rfl, by kernel_rfl, by kernel_rfl, by kernel_rfl⟩) (all_cons (⟨by kernel_rfl, by kernel_rfl, by kernel_rfl, by kernel_rfl⟩) (all_cons (⟨by kernel_rfl, by kernel_rfl, by kernel_rfl, by kernel_rfl⟩) (all_cons (⟨by kernel_rfl, by kernel_rfl, by kernel_rfl, by kernel_rfl⟩) (all_cons (⟨by kernel_rfl, by kernel_rfl, by kernel_rfl, by kernel_rfl⟩) (all_cons (⟨by kernel_rfl, by kernel_rfl, by kernel_rfl, by kernel_rfl⟩) (all_cons (⟨by kernel_rfl, by kernel_rfl, by kernel_rfl, by kernel_rfl⟩) (all_nil)))))))))))))))))))))))))))))))
  (all_cons (⟨by kernel_rfl, by kernel_rfl, by kernel_rfl, by kernel_rfl, by kernel_rfl, by kernel_rfl⟩) (all_cons (⟨by kernel_rfl, by kernel_rfl, by kernel_rfl, by kernel_rfl, by kernel_rfl, by kernel_rfl⟩) (all_cons (⟨by kernel_rfl, by kernel_rfl, by kernel_rfl, by kernel_rfl, by kernel_rfl, by kernel_rfl⟩) (all_cons (⟨by kernel_rfl, by kernel_rfl, by kernel_rfl, by kernel_rfl, by kernel_rfl, by kernel_rfl⟩) (all_cons (⟨by kernel_rfl, by kernel_rfl, by kernel_rfl, by kernel_rfl, by kernel_rfl, by kernel_rfl⟩) (all_cons (⟨by kernel_rfl, by kernel_rfl, by kernel_rfl, by kernel_rfl, by kernel_rfl, by kernel_rfl⟩) (all_cons (⟨by kernel_rfl, by kernel_rfl, by kernel_rfl, by kernel_rfl, by kernel_rfl, by kernel_rfl⟩) (all_nil))))))))
  (all_cons (⟨by kernel_rfl, by kernel_rfl, by kernel_rfl, by kernel_rfl⟩) (all_cons (⟨by kernel_rfl, by kernel_rfl, by kernel_rfl, by kernel_rfl⟩) (all_cons (⟨by kernel_rfl, by kernel_rfl, by kernel_rfl, by kernel_rfl⟩) (all_nil))))
  (all_cons (by kernel_rfl) (all_cons (by kernel_rfl) (all_cons (by kernel_rfl) (all_cons (by kernel_rfl) (all_cons (by kernel_rfl) (all_cons (by kernel_rfl) (all_cons (by kernel_rfl) (all_cons (by kernel_rfl) (all_cons (by kernel_rfl) (all_cons (by kernel_rfl) (all_cons (by kernel_rfl) (all_nil))))))))))))
variable {w : World} {mean : ExcName → Option Value} {mg mb : Str → Option Value} {sc : Scope} {ρ : Lo} {σ : Hp} {X : EX} {Q : MV → Hp → Prop} {n : Nat}
theorem g_is_whole : (cx w mean mg mb).glob ("is_whole" : Str) = some (.ref a_is_whole) := by kernel_rfl
theorem g_step : (cx w mean mg mb).glob ("step" : Str) = some (.ref a_step) := by kernel_rfl
theorem g_is_name : (cx w mean mg mb).glob ("is_name" : Str) = some (.ref a_is_name) := by kernel_rfl
theorem g_law_cell_at : (cx w mean mg mb).glob ("_law_cell_at" : Str) = some (.ref a_law_cell_at) := by kernel_rfl
theorem g_law_rows_by : (cx w mean mg mb).glob ("_law_rows_by" : Str) = some (.ref a_law_rows_by) := by kernel_rfl
theorem g_law_house_by : (cx w mean mg mb).glob ("_law_house_by" : Str) = some (.ref a_law_house_by) := by kernel_rfl
theorem g_law_stirred : (cx w mean mg mb).glob ("_law_stirred" : Str) = some (.ref a_law_stirred) := by kernel_rfl
theorem g_law_told : (cx w mean mg mb).glob ("_law_told" : Str) = some (.ref a_law_told) := by kernel_rfl
theorem g_law_refused : (cx w mean mg mb).glob ("_law_refused" : Str) = some (.ref a_law_refused) := by kernel_rfl
theorem g_law_ahead : (cx w mean mg mb).glob ("_law_ahead" : Str) = some (.ref a_law_ahead) := by kernel_rfl
theorem g_ShareError : (cx w mean mg mb).glob ("ShareError" : Str) = some (.ref a_ShareError) := by kernel_rfl
theorem g_BadShare : (cx w mean mg mb).glob ("BadShare" : Str) = some (.ref a_BadShare) := by kernel_rfl
theorem g_BadName : (cx w mean mg mb).glob ("BadName" : Str) = some (.ref a_BadName) := by kernel_rfl
theorem g_Twice : (cx w mean mg mb).glob ("Twice" : Str) = some (.ref a_Twice) := by kernel_rfl
theorem g_NoTeam : (cx w mean mg mb).glob ("NoTeam" : Str) = some (.ref a_NoTeam) := by kernel_rfl
theorem g_NoName : (cx w mean mg mb).glob ("NoName" : Str) = some (.ref a_NoName) := by kernel_rfl
theorem g_NotHand : (cx w mean mg mb).glob ("NotHand" : Str) = some (.ref a_NotHand) := by kernel_rfl
theorem g_NotEmpty : (cx w mean mg mb).glob ("NotEmpty" : Str) = some (.ref a_NotEmpty) := by kernel_rfl
theorem g_BadCount : (cx w mean mg mb).glob ("BadCount" : Str) = some (.ref a_BadCount) := by kernel_rfl
theorem g_NoDeed : (cx w mean mg mb).glob ("NoDeed" : Str) = some (.ref a_NoDeed) := by kernel_rfl
theorem g_Sharer : (cx w mean mg mb).glob ("Sharer" : Str) = some (.ref a_Sharer) := by kernel_rfl
theorem g_Wheel : (cx w mean mg mb).glob ("Wheel" : Str) = some (.ref a_Wheel) := by kernel_rfl
theorem g_House : (cx w mean mg mb).glob ("House" : Str) = some (.ref a_House) := by kernel_rfl
theorem g_ROUND : (cx w mean mg mb).glob ("ROUND" : Str) = some (.int 27720) := by kernel_rfl
theorem g_MOST : (cx w mean mg mb).glob ("MOST" : Str) = some (.int 12) := by kernel_rfl
theorem g_TOP : (cx w mean mg mb).glob ("TOP" : Str) = some (.str "") := by kernel_rfl
theorem g_LETTERS : (cx w mean mg mb).glob ("LETTERS" : Str) = some (.str "abcdefghijklmnopqrstuvwxyz") := by kernel_rfl
theorem g_MOST_LETTERS : (cx w mean mg mb).glob ("MOST_LETTERS" : Str) = some (.int 8) := by kernel_rfl
theorem g_MOST_COMING : (cx w mean mg mb).glob ("MOST_COMING" : Str) = some (.int 999) := by kernel_rfl
theorem g_ValueError : (cx w mean mg mb).glob ("ValueError" : Str) = some (.con (.type "ValueError")) := by kernel_rfl
theorem g_all : (cx w mean mg mb).glob ("all" : Str) = some (.con (.builtin "all")) := by kernel_rfl
theorem g_bool : (cx w mean mg mb).glob ("bool" : Str) = some (.con (.type "bool")) := by kernel_rfl
theorem g_int : (cx w mean mg mb).glob ("int" : Str) = some (.con (.type "int")) := by kernel_rfl
theorem g_isinstance : (cx w mean mg mb).glob ("isinstance" : Str) = some (.con (.builtin "isinstance")) := by kernel_rfl
theorem g_len : (cx w mean mg mb).glob ("len" : Str) = some (.con (.builtin "len")) := by kernel_rfl
theorem g_list : (cx w mean mg mb).glob ("list" : Str) = some (.con (.type "list")) := by kernel_rfl
theorem g_max : (cx w mean mg mb).glob ("max" : Str) = some (.con (.builtin "max")) := by kernel_rfl
theorem g_range : (cx w mean mg mb).glob ("range" : Str) = some (.con (.type "range")) := by kernel_rfl
theorem g_str : (cx w mean mg mb).glob ("str" : Str) = some (.con (.type "str")) := by kernel_rfl
theorem k_int_int : kitOne (cx w mean mg mb).K (.type "int") (.type "int") = some true := by kernel_rfl
theorem k_int_bool : kitOne (cx w mean mg mb).K (.type "int") (.type "bool") = some false := by kernel_rfl
theorem k_bool_bool : kitOne (cx w mean mg mb).K (.type "bool") (.type "bool") = some true := by kernel_rfl
theorem k_str_int : kitOne (cx w mean mg mb).K (.type "str") (.type "int") = some false := by kernel_rfl
theorem k_str_bool : kitOne (cx w mean mg mb).K (.type "str") (.type "bool") = some false := by kernel_rfl
theorem k_str_str : kitOne (cx w mean mg mb).K (.type "str") (.type "str") = some true := by kernel_rfl
theorem k_NoneType_int : kitOne (cx w mean mg mb).K (.type "NoneType") (.type "int") = some false := by kernel_rfl
theorem k_NoneType_bool : kitOne (cx w mean mg mb).K (.type "NoneType") (.type "bool") = some false := by kernel_rfl
theorem k_list_list : kitOne (cx w mean mg mb).K (.type "list") (.type "list") = some true := by kernel_rfl
theorem mi_Sharer : (cx w mean mg mb).init a_Sharer = some m_Sharer_init := by kernel_rfl
theorem mi_Wheel : (cx w mean mg mb).init a_Wheel = some m_Wheel_init := by kernel_rfl
theorem ms_Wheel_need : (cx w mean mg mb).meth a_Wheel ("need" : Str) = some m_Wheel_need := by kernel_rfl
theorem ms_Wheel_enter : (cx w mean mg mb).meth a_Wheel ("enter" : Str) = some m_Wheel_enter := by kernel_rfl
theorem ms_Wheel_leave : (cx w mean mg mb).meth a_Wheel ("leave" : Str) = some m_Wheel_leave := by kernel_rfl
theorem ms_Wheel_reshare : (cx w mean mg mb).meth a_Wheel ("reshare" : Str) = some m_Wheel_reshare := by kernel_rfl
theorem ms_Wheel_wake : (cx w mean mg mb).meth a_Wheel ("wake" : Str) = some m_Wheel_wake := by kernel_rfl
theorem ms_Wheel_rest : (cx w mean mg mb).meth a_Wheel ("rest" : Str) = some m_Wheel_rest := by kernel_rfl
theorem ms_Wheel_whose : (cx w mean mg mb).meth a_Wheel ("whose" : Str) = some m_Wheel_whose := by kernel_rfl
theorem ms_Wheel_turn : (cx w mean mg mb).meth a_Wheel ("turn" : Str) = some m_Wheel_turn := by kernel_rfl
theorem ms_Wheel_names : (cx w mean mg mb).meth a_Wheel ("names" : Str) = some m_Wheel_names := by kernel_rfl
theorem ms_Wheel_clock_of : (cx w mean mg mb).meth a_Wheel ("clock_of" : Str) = some m_Wheel_clock_of := by kernel_rfl
theorem ms_Wheel_share_of : (cx w mean mg mb).meth a_Wheel ("share_of" : Str) = some m_Wheel_share_of := by kernel_rfl
theorem ms_Wheel_is_ready : (cx w mean mg mb).meth a_Wheel ("is_ready" : Str) = some m_Wheel_is_ready := by kernel_rfl
theorem ms_Wheel_copied : (cx w mean mg mb).meth a_Wheel ("copied" : Str) = some m_Wheel_copied := by kernel_rfl
theorem mi_House : (cx w mean mg mb).init a_House = some m_House_init := by kernel_rfl
theorem ms_House_is_team : (cx w mean mg mb).meth a_House ("is_team" : Str) = some m_House_is_team := by kernel_rfl
theorem ms_House_need : (cx w mean mg mb).meth a_House ("need" : Str) = some m_House_need := by kernel_rfl
theorem ms_House_need_hand : (cx w mean mg mb).meth a_House ("need_hand" : Str) = some m_House_need_hand := by kernel_rfl
theorem ms_House_stand : (cx w mean mg mb).meth a_House ("stand" : Str) = some m_House_stand := by kernel_rfl
theorem ms_House_team : (cx w mean mg mb).meth a_House ("team" : Str) = some m_House_team := by kernel_rfl
theorem ms_House_hand : (cx w mean mg mb).meth a_House ("hand" : Str) = some m_House_hand := by kernel_rfl
theorem ms_House_leave : (cx w mean mg mb).meth a_House ("leave" : Str) = some m_House_leave := by kernel_rfl
theorem ms_House_reshare : (cx w mean mg mb).meth a_House ("reshare" : Str) = some m_House_reshare := by kernel_rfl
theorem ms_House_wake : (cx w mean mg mb).meth a_House ("wake" : Str) = some m_House_wake := by kernel_rfl
theorem ms_House_rest : (cx w mean mg mb).meth a_House ("rest" : Str) = some m_House_rest := by kernel_rfl
theorem ms_House_deal : (cx w mean mg mb).meth a_House ("deal" : Str) = some m_House_deal := by kernel_rfl
theorem ms_House_copied : (cx w mean mg mb).meth a_House ("copied" : Str) = some m_House_copied := by kernel_rfl
theorem ms_House_coming : (cx w mean mg mb).meth a_House ("coming" : Str) = some m_House_coming := by kernel_rfl
theorem ms_House_wheel_of : (cx w mean mg mb).meth a_House ("wheel_of" : Str) = some m_House_wheel_of := by kernel_rfl
theorem fn_is_whole : (cx w mean mg mb).fns a_is_whole = true := by kernel_rfl
theorem fn_step : (cx w mean mg mb).fns a_step = true := by kernel_rfl
theorem fn_is_name : (cx w mean mg mb).fns a_is_name = true := by kernel_rfl
theorem fn_law_cell_at : (cx w mean mg mb).fns a_law_cell_at = true := by kernel_rfl
theorem fn_law_rows_by : (cx w mean mg mb).fns a_law_rows_by = true := by kernel_rfl
theorem fn_law_house_by : (cx w mean mg mb).fns a_law_house_by = true := by kernel_rfl
theorem fn_law_stirred : (cx w mean mg mb).fns a_law_stirred = true := by kernel_rfl
theorem fn_law_told : (cx w mean mg mb).fns a_law_told = true := by kernel_rfl
theorem fn_law_refused : (cx w mean mg mb).fns a_law_refused = true := by kernel_rfl
theorem fn_law_ahead : (cx w mean mg mb).fns a_law_ahead = true := by kernel_rfl
local macro_rules | `(tactic| walk_at "om") => `(tactic| first
  | (exact Int.lt_trans (by assumption) (by decide))
  | (exact Nat.le_trans (by assumption) (by decide))
  | (exact Int.le_trans (by assumption) (by decide))
  | (exact Nat.le_trans (Nat.le_trans (Nat.le_of_eq (by assumption)) (by assumption)) (by decide))
  | (exact Int.ne_of_gt (Int.lt_of_lt_of_le (by decide) (by assumption)))
  | omega)
local macro_rules | `(tactic| walk_at "lk") => `(tactic| first
  | (with_reducible exact Lo.put_self)
  | ((with_reducible refine Lo.put_ne ?_ ?_); (· kernel_rfl); walk_at "lk")
  | with_reducible assumption)
local macro_rules | `(tactic| walk_at "hp") => `(tactic| first
  | with_reducible assumption
  | (with_reducible exact Hp.self)
  | ((with_reducible refine Hp.new ?_ ?_); (· first | with_reducible assumption | exact Fresh.none (by with_reducible assumption)); walk_at "hp")
  | ((with_reducible apply Hp.tag'); (walk_at "hp"); (walk_at "hp"); (decide)))
local macro_rules | `(tactic| walk_at "ar") => `(tactic| first | with_reducible assumption | decide | walk_at "om")
structure Shr where
  name : Str
  a : Nat
  share : Int
  clock : Int
  ready : Bool
def Shr.obj (x : Shr) : MO := .inst a_Sharer [("share", .int x.share), ("clock", .int x.clock), ("ready", .bool x.ready)]
def wObj (past : Int) (d : Nat) : MO := .inst a_Wheel [("past", .int past), ("sharers", .ref d)]
def ents (l : List Shr) : List (Str × MV) := l.map fun x => (x.name, .ref x.a)
theorem getK_ents : ∀ {l : List Shr} {k : Nat} {x : Shr}, (l.map (·.name)).Nodup → l[k]? = some x → getK (ents l) x.name = some (.ref x.a)
  | [], k, x, _, h => by simp at h
  | y :: l, 0, x, _, h => by
    simp at h; subst h
    simp [getK, ents]
  | y :: l, k + 1, x, nd, h => by
    simp only [List.map_cons, List.nodup_cons] at nd
    simp only [List.getElem?_cons_succ] at h
    have hm : x.name ∈ l.map (·.name) := List.mem_map.mpr ⟨x, List.mem_of_getElem? h, rfl⟩
    have hne : y.name ≠ x.name := fun q => nd.1 (q ▸ hm)
    have ih := getK_ents nd.2 h
    simp only [getK, ents, List.map_cons, List.find?_cons, decide_eq_false hne] at ih ⊢
    exact ih
theorem getK_out {l : List Shr} {n : Str} (h : n ∉ l.map (·.name)) : getK (ents l) n = Option.none := by
  unfold getK ents
  rw [List.find?_eq_none.mpr]
  · rfl
  · intro p hp
    obtain ⟨x, hx, rfl⟩ := List.mem_map.mp hp
    simp only [decide_eq_true_eq]
    exact fun q => h (List.mem_map.mpr ⟨x, hx, q⟩)
theorem putK_out {l : List Shr} {n : Str} {v : MV} (h : n ∉ l.map (·.name)) : putK (ents l) n v = ents l ++ [(n, v)] := by
  unfold putK
  rw [if_neg]
  simp only [Bool.not_eq_true, List.any_eq_false, decide_eq_true_eq]
  intro p hp
  obtain ⟨x, hx, rfl⟩ := List.mem_map.mp hp
  exact fun q => h (List.mem_map.mpr ⟨x, hx, q⟩)
structure WheelD (σ : Hp) (W d t : Nat) (past : Int) (l : List Shr) : Prop where
  whl : σ W = some (t, wObj past d)
  dic : σ d = some (t, .sdict (ents l))
  shr : ∀ x ∈ l, σ x.a = some (t, x.obj)
  nn : (l.map (·.name)).Nodup
  na : (l.map (·.a)).Nodup
theorem WheelD.keep {σ σ' : Hp} {W d t : Nat} {past : Int} {l : List Shr} (h : WheelD σ W d t past l) (k : Kpt t σ σ') : WheelD σ' W d t past l :=
  ⟨k.at h.whl, k.at h.dic, fun x hx => k.at (h.shr x hx), h.nn, h.na⟩
theorem WheelD.past {σ : Hp} {W d t : Nat} {past past' : Int} {l : List Shr} (h : WheelD σ W d t past l) : WheelD (σ.put W t (wObj past' d)) W d t past' l where
  whl := Hp.self
  dic := Hp.ne (fun q => by have := h.dic; rw [q, h.whl] at this; simp [wObj] at this) h.dic
  shr := fun x hx => Hp.ne (fun q => by have := h.shr x hx; rw [q, h.whl] at this; simp [wObj, Shr.obj] at this) (h.shr x hx)
  nn := h.nn
  na := h.na
theorem map_set' {α β : Type} (f : α → β) (l : List α) (k : Nat) (y : α) : (l.set k y).map f = (l.map f).set k (f y) := List.map_set
theorem set_same {α : Type} : ∀ {l : List α} {k : Nat} {y : α}, l[k]? = some y → l.set k y = l
  | [], _, _, h => by simp at h
  | z :: l, 0, y, h => by simp at h; subst h; rfl
  | z :: l, k + 1, y, h => by
    simp only [List.getElem?_cons_succ] at h
    simp only [List.set_cons_succ, set_same h]
theorem map_set_same {α β : Type} (f : α → β) {l : List α} {k : Nat} {x y : α} (h : l[k]? = some x) (e : f y = f x) : (l.set k y).map f = l.map f := by
  rw [map_set', e]
  exact set_same (by rw [List.getElem?_map, h]; rfl)
theorem mem_set_or {α : Type} {l : List α} {k : Nat} {y z : α} (h : z ∈ l.set k y) : z = y ∨ ∃ j, j ≠ k ∧ l[j]? = some z := by
  obtain ⟨j, hj⟩ := List.mem_iff_getElem?.mp h
  rw [List.getElem?_set] at hj
  by_cases q : k = j
  · subst q
    simp only [if_true] at hj
    split at hj
    · exact .inl (Option.some.inj hj).symm
    · simp at hj
  · rw [if_neg q] at hj
    exact .inr ⟨j, fun e => q e.symm, hj⟩
theorem nodup_at {α β : Type} {f : α → β} : ∀ {l : List α} {j k : Nat} {x y : α}, (l.map f).Nodup → l[j]? = some x → l[k]? = some y → f x = f y → j = k
  | [], _, _, _, _, _, h, _, _ => by simp at h
  | z :: l, 0, 0, _, _, _, _, _, _ => rfl
  | z :: l, 0, k + 1, x, y, nd, hx, hy, e => by
    simp only [List.map_cons, List.nodup_cons] at nd
    simp at hx hy; subst hx
    exact absurd (List.mem_map.mpr ⟨y, List.mem_of_getElem? hy, e.symm⟩) nd.1
  | z :: l, j + 1, 0, x, y, nd, hx, hy, e => by
    simp only [List.map_cons, List.nodup_cons] at nd
    simp at hx hy; subst hy
    exact absurd (List.mem_map.mpr ⟨x, List.mem_of_getElem? hx, e⟩) nd.1
  | z :: l, j + 1, k + 1, x, y, nd, hx, hy, e => by
    simp only [List.map_cons, List.nodup_cons] at nd
    simp only [List.getElem?_cons_succ] at hx hy
    rw [nodup_at nd.2 hx hy e]
theorem WheelD.upd {σ : Hp} {W d t : Nat} {past : Int} {l : List Shr} (h : WheelD σ W d t past l) {k : Nat} {x y : Shr} (hk : l[k]? = some x) (hn : y.name = x.name) (ha : y.a = x.a) :
    WheelD (σ.put x.a t y.obj) W d t past (l.set k y) where
  whl := Hp.ne (fun q => by have := h.shr x (List.mem_of_getElem? hk); rw [← q, h.whl] at this; simp [wObj, Shr.obj] at this) h.whl
  dic := Hp.ne (fun q => by have := h.shr x (List.mem_of_getElem? hk); rw [← q, h.dic] at this; simp [Shr.obj] at this) (by
    rw [h.dic]
    have : ents (l.set k y) = ents l := map_set_same _ hk (by rw [hn, ha])
    rw [this])
  shr := fun z hz => by
    rcases mem_set_or hz with rfl | ⟨j, hj, hz⟩
    · rw [ha]; exact Hp.self
    · exact Hp.ne (fun q => hj (nodup_at h.na hz hk q)) (h.shr z (List.mem_of_getElem? hz))
  nn := by rw [map_set_same _ hk hn]; exact h.nn
  na := by rw [map_set_same _ hk ha]; exact h.na
theorem WheelD.enter {σ : Hp} {W d t : Nat} {past : Int} {l : List Shr} (h : WheelD σ W d t past l) {y : Shr} (hb : σ y.a = Option.none) (hn : y.name ∉ l.map (·.name)) :
    WheelD ((σ.put y.a t y.obj).put d t (.sdict (ents (l ++ [y])))) W d t past (l ++ [y]) where
  whl := Hp.ne (fun q => by have := h.dic; rw [← q, h.whl] at this; simp [wObj] at this) (Hp.new hb h.whl)
  dic := Hp.self
  shr := fun z hz => by
    rcases List.mem_append.mp hz with hz | hz
    · exact Hp.ne (fun q => by have := h.dic; rw [← q, h.shr z hz] at this; simp [Shr.obj] at this) (Hp.new hb (h.shr z hz))
    · simp at hz; subst hz
      exact Hp.ne (fun q => by have := h.dic; rw [← q, hb] at this; simp at this) Hp.self
  nn := by
    rw [List.map_append]
    refine List.nodup_append.mpr ⟨h.nn, by simp, fun a ha b hb q => ?_⟩
    simp at hb; subst hb; subst q; exact hn ha
  na := by
    rw [List.map_append]
    refine List.nodup_append.mpr ⟨h.na, by simp, fun a ha b hb' q => ?_⟩
    simp at hb'; subst hb'
    obtain ⟨z, hz, e⟩ := List.mem_map.mp ha
    have := h.shr z hz
    rw [e, q, hb] at this; simp at this
/-- whose turn it is -/
def better (x : Shr) : Option Shr → Bool
  | .none => true
  | some y => decide (x.clock < y.clock)
def pick : List Shr → Option Shr → Option Shr
  | [], f => f
  | x :: l, f => pick l (if x.ready && better x f then some x else f)
def whoV : Option Shr → MV
  | .none => .none
  | some x => .str x.name
def dealt (x : Shr) : Shr := { x with clock := x.clock + (27720 : Int).fdiv x.share }
theorem pick_none : ∀ {l : List Shr} {f : Option Shr}, (∀ x ∈ l, x.ready = false) → pick l f = f
  | [], _, _ => rfl
  | x :: l, f, h => by
    simp only [pick, h x (List.mem_cons_self ..), Bool.false_and]
    exact pick_none fun y hy => h y (List.mem_cons_of_mem _ hy)
theorem pick_mem : ∀ {l : List Shr} {f : Option Shr} {x : Shr}, pick l f = some x → (x ∈ l ∧ x.ready = true) ∨ f = some x
  | [], _, _, h => .inr h
  | y :: l, f, x, h => by
    simp only [pick] at h
    rcases pick_mem h with h | h
    · exact .inl ⟨List.mem_cons_of_mem _ h.1, h.2⟩
    · split at h
      · rename_i q
        cases h
        simp only [Bool.and_eq_true] at q
        exact .inl ⟨List.mem_cons_self .., q.1⟩
      · exact .inr h
theorem is_whole_int {k lo hi : Int} (h : Q (.bool (decide (lo ≤ k) && decide (k ≤ hi))) σ) : WFn (cx w mean mg mb) ⟨n + 1, true, sc⟩ a_is_whole [.int k, .int lo, .int hi] ρ Q X σ := by
  refine WFn.fn3 (p1 := "thing") (p2 := "least") (p3 := "most") ⟨⟨_, _, _, _, _, _, _, _, _, _, _, _, _, (rfl : (Mine.hd.heap_39 w.params).lookup a_is_whole = _), by kernel_rfl, us3 fun _ _ _ => rfl⟩, by kernel_rfl⟩ ?_
  with_reducible refine WSs.cons ?_
  with_reducible refine WS.ite ?_
  with_reducible refine WT.bool ?_
  with_reducible refine WA.or ?_
  with_reducible refine WT.plain (by with_unfolding_all (first | exact fun _ _ => rfl | exact fun _ _ _ => rfl)) ?_
  with_reducible refine WE.call rfl rfl ?_
  with_reducible refine WE.globalA (by kernel_rfl) g_isinstance ?_
  with_reducible refine And.intro (Callee.con rfl) ?_
  with_reducible refine WEs.cons rfl ?_
  with_reducible refine WE.localA (by kernel_rfl) (by kernel_rfl) (by walk_at "lk") ?_
  with_reducible refine WEs.cons rfl ?_
  with_reducible refine WE.globalA (by kernel_rfl) g_bool ?_
  with_reducible refine WEs.nil ?_
  with_reducible refine WCall.isinstance (by first | with_reducible assumption | (with_reducible exact KindOf.int) | (with_reducible exact KindOf.str) | (with_reducible exact KindOf.bool) | (with_reducible exact KindOf.none) | ((with_reducible apply KindOf.list); walk_at "hp") | ((with_reducible apply KindOf.tuple); walk_at "hp")) k_int_bool ?_
  with_reducible refine WTr.bool ?_
  with_reducible refine if_ff ?_
  with_reducible refine WA.or ?_
  with_reducible refine WT.not ?_
  with_reducible refine WT.plain (by with_unfolding_all (first | exact fun _ _ => rfl | exact fun _ _ _ => rfl)) ?_
  with_reducible refine WE.call rfl rfl ?_
  with_reducible refine WE.globalA (by kernel_rfl) g_isinstance ?_
  with_reducible refine And.intro (Callee.con rfl) ?_
  with_reducible refine WEs.cons rfl ?_
  with_reducible refine WE.localA (by kernel_rfl) (by kernel_rfl) (by walk_at "lk") ?_
  with_reducible refine WEs.cons rfl ?_
  with_reducible refine WE.globalA (by kernel_rfl) g_int ?_
  with_reducible refine WEs.nil ?_
  with_reducible refine WCall.isinstance (by first | with_reducible assumption | (with_reducible exact KindOf.int) | (with_reducible exact KindOf.str) | (with_reducible exact KindOf.bool) | (with_reducible exact KindOf.none) | ((with_reducible apply KindOf.list); walk_at "hp") | ((with_reducible apply KindOf.tuple); walk_at "hp")) k_int_int ?_
  with_reducible refine WTr.bool ?_
  with_reducible refine if_nt ?_
  with_reducible refine WA.or_nil ?_
  with_reducible refine if_ff ?_
  with_reducible refine WSs.nil ?_
  with_reducible refine WSs.cons ?_
  with_reducible refine WS.ret ?_
  with_reducible refine WE.cmp2 rfl ?_
  with_reducible refine WE.localA (by kernel_rfl) (by kernel_rfl) (by walk_at "lk") ?_
  with_reducible refine WE.localA (by kernel_rfl) (by kernel_rfl) (by walk_at "lk") ?_
  with_reducible refine WC.le ?_
  with_reducible refine WTr.bool ?_
  by_cases h1 : lo ≤ k
  · rw [decide_eq_true h1] at h ⊢
    with_reducible refine if_tt ?_
    with_reducible refine WE.localA (by kernel_rfl) (by kernel_rfl) (by walk_at "lk") ?_
    with_reducible refine WC.le ?_
    exact h
  · rw [decide_eq_false h1] at h ⊢
    with_reducible refine if_ff ?_
    exact h
theorem step_ok {k : Int} (h0 : 1 ≤ k) (h1 : k ≤ 12) (h : Q (.int ((27720 : Int).fdiv k)) σ) : WFn (cx w mean mg mb) ⟨n + 2, true, sc⟩ a_step [.int k] ρ Q X σ := by
  refine WFn.fn1 (p1 := "share") ⟨⟨_, _, _, _, _, _, _, _, _, _, _, _, _, (rfl : (Mine.hd.heap_39 w.params).lookup a_step = _), by kernel_rfl, us1 fun _ => rfl⟩, by kernel_rfl⟩ ?_
  with_reducible refine WSs.cons ?_
  with_reducible refine WS.ite ?_
  with_reducible refine WT.not ?_
  with_reducible refine WT.plain (by with_unfolding_all (first | exact fun _ _ => rfl | exact fun _ _ _ => rfl)) ?_
  with_reducible refine WE.call rfl rfl ?_
  with_reducible refine WE.globalA (by kernel_rfl) g_is_whole ?_
  with_reducible refine And.intro (Callee.fn fn_is_whole) ?_
  with_reducible refine WEs.cons rfl ?_
  with_reducible refine WE.localA (by kernel_rfl) (by kernel_rfl) (by walk_at "lk") ?_
  with_reducible refine WEs.cons rfl ?_
  with_reducible refine WE.int ?_
  with_reducible refine WEs.cons rfl ?_
  with_reducible refine WE.globalA (by kernel_rfl) g_MOST ?_
  with_reducible refine WEs.nil ?_
  have e : (decide (1 ≤ k) && decide (k ≤ 12)) = true := by rw [decide_eq_true h0, decide_eq_true h1]; rfl
  refine WCall.of_fn (is_whole_int ?_)
  rw [e]
  with_reducible refine WTr.bool ?_
  with_reducible refine if_nt ?_
  with_reducible refine WSs.nil ?_
  with_reducible refine WSs.cons ?_
  with_reducible refine WS.ret ?_
  with_reducible refine WE.binop ?_
  with_reducible refine WE.globalA (by kernel_rfl) g_ROUND ?_
  with_reducible refine WE.localA (by kernel_rfl) (by kernel_rfl) (by walk_at "lk") ?_
  with_reducible refine WB.div (by walk_at "ar") (by walk_at "ar") ?_
  exact h
theorem make_sharer (t : Nat) {v1 v2 v3 : MV} (h : ∀ b, Fresh σ b → Q (.ref b) (σ.put b t (.inst a_Sharer [("share", v1), ("clock", v2), ("ready", v3)]))) :
    WFn (cx w mean mg mb) ⟨n + 2, true, sc⟩ a_Sharer [v1, v2, v3] ρ Q X σ := by
  refine WFn.make t mi_Sharer fun b hb hbn => ?_
  refine WFn.fn4 (p1 := "self") (p2 := "share") (p3 := "clock") (p4 := "ready") ⟨⟨_, _, _, _, _, _, _, _, _, _, _, _, _, (rfl : (Mine.hd.heap_39 w.params).lookup m_Sharer_init = _), by kernel_rfl, us4 fun _ _ _ _ => rfl⟩, by kernel_rfl⟩ ?_
  with_reducible refine WSs.cons ?_
  with_reducible refine WS.setAttr (by with_unfolding_all (first | exact fun _ _ => rfl | exact fun _ _ _ => rfl)) ?_
  with_reducible refine WE.localA (by kernel_rfl) (by kernel_rfl) (by walk_at "lk") ?_
  with_reducible refine WE.localA (by kernel_rfl) (by kernel_rfl) (by walk_at "lk") ?_
  refine WSet.inst' (fs' := [("share", v1)]) Hp.self (by kernel_rfl) (by kernel_rfl) (by simp) ?_
  with_reducible refine WSs.cons ?_
  with_reducible refine WS.setAttr (by with_unfolding_all (first | exact fun _ _ => rfl | exact fun _ _ _ => rfl)) ?_
  with_reducible refine WE.localA (by kernel_rfl) (by kernel_rfl) (by walk_at "lk") ?_
  with_reducible refine WE.localA (by kernel_rfl) (by kernel_rfl) (by walk_at "lk") ?_
  refine WSet.inst' (fs' := [("share", v1), ("clock", v2)]) Hp.self (by kernel_rfl) (by kernel_rfl) (by simp) ?_
  with_reducible refine WSs.cons ?_
  with_reducible refine WS.setAttr (by with_unfolding_all (first | exact fun _ _ => rfl | exact fun _ _ _ => rfl)) ?_
  with_reducible refine WE.localA (by kernel_rfl) (by kernel_rfl) (by walk_at "lk") ?_
  with_reducible refine WE.localA (by kernel_rfl) (by kernel_rfl) (by walk_at "lk") ?_
  refine WSet.inst' (fs' := [("share", v1), ("clock", v2), ("ready", v3)]) Hp.self (by kernel_rfl) (by kernel_rfl) (by simp) ?_
  with_reducible refine WSs.nil ?_
  refine ⟨rfl, ?_⟩
  rw [Hp.put_put, Hp.put_put, Hp.put_put]
  exact h b hb
theorem need_c {W d t k : Nat} {past : Int} {l : List Shr} {x : Shr} (h : WheelD σ W d t past l) (hk : l[k]? = some x) (hq : Q (.ref x.a) σ) : WFn (cx w mean mg mb) ⟨n + 1, true, sc⟩ m_Wheel_need [.ref W, .str x.name] ρ Q X σ := by
  have hW : σ W = some (t, .inst a_Wheel [("past", .int past), ("sharers", .ref d)]) := h.whl
  have hd := h.dic
  have hg : getK (ents l) x.name = some (.ref x.a) := getK_ents h.nn hk
  refine WFn.fn2 (p1 := "self") (p2 := "name") ⟨⟨_, _, _, _, _, _, _, _, _, _, _, _, _, (rfl : (Mine.hd.heap_39 w.params).lookup m_Wheel_need = _), by kernel_rfl, us2 fun _ _ => rfl⟩, by kernel_rfl⟩ ?_
  with_reducible refine WSs.cons ?_
  with_reducible refine WS.ite ?_
  with_reducible refine WT.bool ?_
  with_reducible refine WA.or ?_
  with_reducible refine WT.not ?_
  with_reducible refine WT.plain (by with_unfolding_all (first | exact fun _ _ => rfl | exact fun _ _ _ => rfl)) ?_
  with_reducible refine WE.call rfl rfl ?_
  with_reducible refine WE.globalA (by kernel_rfl) g_isinstance ?_
  with_reducible refine And.intro (Callee.con rfl) ?_
  with_reducible refine WEs.cons rfl ?_
  with_reducible refine WE.localA (by kernel_rfl) (by kernel_rfl) (by walk_at "lk") ?_
  with_reducible refine WEs.cons rfl ?_
  with_reducible refine WE.globalA (by kernel_rfl) g_str ?_
  with_reducible refine WEs.nil ?_
  with_reducible refine WCall.isinstance (by first | with_reducible assumption | (with_reducible exact KindOf.int) | (with_reducible exact KindOf.str) | (with_reducible exact KindOf.bool) | (with_reducible exact KindOf.none) | ((with_reducible apply KindOf.list); walk_at "hp") | ((with_reducible apply KindOf.tuple); walk_at "hp")) k_str_str ?_
  with_reducible refine WTr.bool ?_
  with_reducible refine if_nt ?_
  with_reducible refine WA.or ?_
  with_reducible refine WT.cmp1 rfl ?_
  with_reducible refine WE.localA (by kernel_rfl) (by kernel_rfl) (by walk_at "lk") ?_
  with_reducible refine WE.attr (by with_unfolding_all (first | exact fun _ _ => rfl | exact fun _ _ _ => rfl)) ?_
  with_reducible refine WE.localA (by kernel_rfl) (by kernel_rfl) (by walk_at "lk") ?_
  with_reducible refine WGet.inst (by walk_at "hp") (by kernel_rfl) (by repeat (first | (with_reducible exact lk_head) | (with_reducible refine lk_tail (by kernel_rfl) ?_))) (by with_unfolding_all rfl) ?_
  with_reducible refine WC.notInS_t (by walk_at "hp") (by with_reducible assumption) ?_
  with_reducible refine WTr.bool ?_
  with_reducible refine if_ff ?_
  with_reducible refine WA.or_nil ?_
  with_reducible refine if_ff ?_
  with_reducible refine WSs.nil ?_
  with_reducible refine WSs.cons ?_
  with_reducible refine WS.ret ?_
  with_reducible refine WE.sub ?_
  with_reducible refine WE.attr (by with_unfolding_all (first | exact fun _ _ => rfl | exact fun _ _ _ => rfl)) ?_
  with_reducible refine WE.localA (by kernel_rfl) (by kernel_rfl) (by walk_at "lk") ?_
  with_reducible refine WGet.inst (by walk_at "hp") (by kernel_rfl) (by repeat (first | (with_reducible exact lk_head) | (with_reducible refine lk_tail (by kernel_rfl) ?_))) (by with_unfolding_all rfl) ?_
  with_reducible refine WE.localA (by kernel_rfl) (by kernel_rfl) (by walk_at "lk") ?_
  with_reducible refine WSub.sdict (by with_unfolding_all (first | exact fun _ _ => rfl | exact fun _ _ _ => rfl)) (by walk_at "hp") (by with_reducible assumption) ?_
  exact hq
theorem enter_c {W d t : Nat} {past : Int} {l : List Shr} {nm : Str} {share : Int} (h : WheelD σ W d t past l) (hn : nm ∉ l.map (·.name)) (h0 : 1 ≤ share) (h1 : share ≤ 12) (hz : l.length ≤ 1000000)
    (hq : ∀ a σ', WheelD σ' W d t past (l ++ [⟨nm, a, share, 0, false⟩]) → Oth t σ σ' → Q .none σ') : WFn (cx w mean mg mb) ⟨n + 3, true, sc⟩ m_Wheel_enter [.ref W, .str nm, .int share] ρ Q X σ := by
  have hW : σ W = some (t, .inst a_Wheel [("past", .int past), ("sharers", .ref d)]) := h.whl
  have hd := h.dic
  have hg : getK (ents l) nm = Option.none := getK_out hn
  refine WFn.fn3 (p1 := "self") (p2 := "name") (p3 := "share") ⟨⟨_, _, _, _, _, _, _, _, _, _, _, _, _, (rfl : (Mine.hd.heap_39 w.params).lookup m_Wheel_enter = _), by kernel_rfl, us3 fun _ _ _ => rfl⟩, by kernel_rfl⟩ ?_
  with_reducible refine WSs.cons ?_
  with_reducible refine WS.ite ?_
  with_reducible refine WT.cmp1 rfl ?_
  with_reducible refine WE.localA (by kernel_rfl) (by kernel_rfl) (by walk_at "lk") ?_
  with_reducible refine WE.attr (by with_unfolding_all (first | exact fun _ _ => rfl | exact fun _ _ _ => rfl)) ?_
  with_reducible refine WE.localA (by kernel_rfl) (by kernel_rfl) (by walk_at "lk") ?_
  with_reducible refine WGet.inst (by walk_at "hp") (by kernel_rfl) (by repeat (first | (with_reducible exact lk_head) | (with_reducible refine lk_tail (by kernel_rfl) ?_))) (by with_unfolding_all rfl) ?_
  with_reducible refine WC.inS_f (by walk_at "hp") (by with_reducible assumption) ?_
  with_reducible refine WTr.bool ?_
  with_reducible refine if_ff ?_
  with_reducible refine WSs.nil ?_
  with_reducible refine WSs.cons ?_
  with_reducible refine WS.expr (by with_unfolding_all (first | exact fun _ _ => rfl | exact fun _ _ _ => rfl)) ?_
  with_reducible refine WE.call rfl rfl ?_
  with_reducible refine WE.globalA (by kernel_rfl) g_step ?_
  with_reducible refine And.intro (Callee.fn fn_step) ?_
  with_reducible refine WEs.cons rfl ?_
  with_reducible refine WE.localA (by kernel_rfl) (by kernel_rfl) (by walk_at "lk") ?_
  with_reducible refine WEs.nil ?_
  refine WCall.of_fn (step_ok h0 h1 ?_)
  with_reducible refine WSs.cons ?_
  with_reducible refine WS.setItem (by with_unfolding_all (first | exact fun _ _ => rfl | exact fun _ _ _ => rfl)) ?_
  with_reducible refine WE.call rfl rfl ?_
  with_reducible refine WE.globalA (by kernel_rfl) g_Sharer ?_
  with_reducible refine And.intro (Callee.cls mi_Sharer) ?_
  with_reducible refine WEs.cons rfl ?_
  with_reducible refine WE.localA (by kernel_rfl) (by kernel_rfl) (by walk_at "lk") ?_
  with_reducible refine WEs.cons rfl ?_
  with_reducible refine WE.int ?_
  with_reducible refine WEs.cons rfl ?_
  with_reducible refine WE.bool ?_
  with_reducible refine WEs.nil ?_
  refine WCall.of_fn (make_sharer t fun b hb => ?_)
  with_reducible refine WE.attr (by with_unfolding_all (first | exact fun _ _ => rfl | exact fun _ _ _ => rfl)) ?_
  with_reducible refine WE.localA (by kernel_rfl) (by kernel_rfl) (by walk_at "lk") ?_
  with_reducible refine WGet.inst (by walk_at "hp") (by kernel_rfl) (by repeat (first | (with_reducible exact lk_head) | (with_reducible refine lk_tail (by kernel_rfl) ?_))) (by with_unfolding_all rfl) ?_
  with_reducible refine WE.localA (by kernel_rfl) (by kernel_rfl) (by walk_at "lk") ?_
  refine WPut.sdict (by walk_at "hp") (by simpa [ents] using hz) ?_
  with_reducible refine WSs.nil ?_
  rw [putK_out hn]
  have hw := WheelD.enter h (y := ⟨nm, b, share, 0, false⟩) hb.none hn
  have e : ents (l ++ [⟨nm, b, share, 0, false⟩]) = ents l ++ [(nm, .ref b)] := by simp [ents]
  rw [e] at hw
  exact hq b _ hw (Oth.put (Oth.refl.new hb.none) (Hp.new hb.none hd))
theorem clock_c {W d t k : Nat} {past : Int} {l : List Shr} {x : Shr} (h : WheelD σ W d t past l) (hk : l[k]? = some x) (hq : Q (.int x.clock) σ) : WFn (cx w mean mg mb) ⟨n + 2, true, sc⟩ m_Wheel_clock_of [.ref W, .str x.name] ρ Q X σ := by
  have hW : σ W = some (t, .inst a_Wheel [("past", .int past), ("sharers", .ref d)]) := h.whl
  have hx : σ x.a = some (t, .inst a_Sharer [("share", .int x.share), ("clock", .int x.clock), ("ready", .bool x.ready)]) := h.shr x (List.mem_of_getElem? hk)
  refine WFn.fn2 (p1 := "self") (p2 := "name") ⟨⟨_, _, _, _, _, _, _, _, _, _, _, _, _, (rfl : (Mine.hd.heap_39 w.params).lookup m_Wheel_clock_of = _), by kernel_rfl, us2 fun _ _ => rfl⟩, by kernel_rfl⟩ ?_
  with_reducible refine WSs.cons ?_
  with_reducible refine WS.ret ?_
  with_reducible refine WE.attr (by with_unfolding_all (first | exact fun _ _ => rfl | exact fun _ _ _ => rfl)) ?_
  with_reducible refine WE.method (by with_unfolding_all (first | exact fun _ _ => rfl | exact fun _ _ _ => rfl)) rfl rfl rfl ?_
  with_reducible refine WE.localA (by kernel_rfl) (by kernel_rfl) (by walk_at "lk") ?_
  with_reducible refine WM.inst (by walk_at "hp") ms_Wheel_need (by kernel_rfl) ?_
  with_reducible refine And.intro (Callee.meth ms_Wheel_need) ?_
  with_reducible refine WEs.cons rfl ?_
  with_reducible refine WE.localA (by kernel_rfl) (by kernel_rfl) (by walk_at "lk") ?_
  with_reducible refine WEs.nil ?_
  refine WCall.of_fn (need_c h hk ?_)
  with_reducible refine WGet.inst (by walk_at "hp") (by kernel_rfl) (by repeat (first | (with_reducible exact lk_head) | (with_reducible refine lk_tail (by kernel_rfl) ?_))) (by with_unfolding_all rfl) ?_
  exact hq
theorem ready_c {W d t k : Nat} {past : Int} {l : List Shr} {x : Shr} (h : WheelD σ W d t past l) (hk : l[k]? = some x) (hq : Q (.bool x.ready) σ) : WFn (cx w mean mg mb) ⟨n + 2, true, sc⟩ m_Wheel_is_ready [.ref W, .str x.name] ρ Q X σ := by
  have hW : σ W = some (t, .inst a_Wheel [("past", .int past), ("sharers", .ref d)]) := h.whl
  have hx : σ x.a = some (t, .inst a_Sharer [("share", .int x.share), ("clock", .int x.clock), ("ready", .bool x.ready)]) := h.shr x (List.mem_of_getElem? hk)
  refine WFn.fn2 (p1 := "self") (p2 := "name") ⟨⟨_, _, _, _, _, _, _, _, _, _, _, _, _, (rfl : (Mine.hd.heap_39 w.params).lookup m_Wheel_is_ready = _), by kernel_rfl, us2 fun _ _ => rfl⟩, by kernel_rfl⟩ ?_
  with_reducible refine WSs.cons ?_
  with_reducible refine WS.ret ?_
  with_reducible refine WE.attr (by with_unfolding_all (first | exact fun _ _ => rfl | exact fun _ _ _ => rfl)) ?_
  with_reducible refine WE.method (by with_unfolding_all (first | exact fun _ _ => rfl | exact fun _ _ _ => rfl)) rfl rfl rfl ?_
  with_reducible refine WE.localA (by kernel_rfl) (by kernel_rfl) (by walk_at "lk") ?_
  with_reducible refine WM.inst (by walk_at "hp") ms_Wheel_need (by kernel_rfl) ?_
  with_reducible refine And.intro (Callee.meth ms_Wheel_need) ?_
  with_reducible refine WEs.cons rfl ?_
  with_reducible refine WE.localA (by kernel_rfl) (by kernel_rfl) (by walk_at "lk") ?_
  with_reducible refine WEs.nil ?_
  refine WCall.of_fn (need_c h hk ?_)
  with_reducible refine WGet.inst (by walk_at "hp") (by kernel_rfl) (by repeat (first | (with_reducible exact lk_head) | (with_reducible refine lk_tail (by kernel_rfl) ?_))) (by with_unfolding_all rfl) ?_
  exact hq
def woken (past : Int) (x : Shr) : Shr := if x.ready then x else { x with clock := (if past > x.clock then past else x.clock), ready := true }
theorem woken_ready {past : Int} {x : Shr} : (woken past x).ready = true := by
  unfold woken
  split
  · assumption
  · rfl
theorem wake_c {W d t k : Nat} {past : Int} {l : List Shr} {x : Shr} (h : WheelD σ W d t past l) (hk : l[k]? = some x) (hq : ∀ σ', WheelD σ' W d t past (l.set k (woken past x)) → Oth t σ σ' → Q (.bool (!x.ready)) σ') :
    WFn (cx w mean mg mb) ⟨n + 2, true, sc⟩ m_Wheel_wake [.ref W, .str x.name] ρ Q X σ := by
  have hW : σ W = some (t, .inst a_Wheel [("past", .int past), ("sharers", .ref d)]) := h.whl
  have hx : σ x.a = some (t, .inst a_Sharer [("share", .int x.share), ("clock", .int x.clock), ("ready", .bool x.ready)]) := h.shr x (List.mem_of_getElem? hk)
  refine WFn.fn2 (p1 := "self") (p2 := "name") ⟨⟨_, _, _, _, _, _, _, _, _, _, _, _, _, (rfl : (Mine.hd.heap_39 w.params).lookup m_Wheel_wake = _), by kernel_rfl, us2 fun _ _ => rfl⟩, by kernel_rfl⟩ ?_
  with_reducible refine WSs.cons ?_
  with_reducible refine WS.assign (by with_unfolding_all (first | exact fun _ _ => rfl | exact fun _ _ _ => rfl)) ?_
  with_reducible refine WE.method (by with_unfolding_all (first | exact fun _ _ => rfl | exact fun _ _ _ => rfl)) rfl rfl rfl ?_
  with_reducible refine WE.localA (by kernel_rfl) (by kernel_rfl) (by walk_at "lk") ?_
  with_reducible refine WM.inst (by walk_at "hp") ms_Wheel_need (by kernel_rfl) ?_
  with_reducible refine And.intro (Callee.meth ms_Wheel_need) ?_
  with_reducible refine WEs.cons rfl ?_
  with_reducible refine WE.localA (by kernel_rfl) (by kernel_rfl) (by walk_at "lk") ?_
  with_reducible refine WEs.nil ?_
  refine WCall.of_fn (need_c h hk ?_)
  with_reducible refine WSt.localA (by kernel_rfl) ?_
  with_reducible refine WSs.cons ?_
  with_reducible refine WS.ite ?_
  with_reducible refine WT.plain (by with_unfolding_all (first | exact fun _ _ => rfl | exact fun _ _ _ => rfl)) ?_
  with_reducible refine WE.attr (by with_unfolding_all (first | exact fun _ _ => rfl | exact fun _ _ _ => rfl)) ?_
  with_reducible refine WE.localA (by kernel_rfl) (by kernel_rfl) (by walk_at "lk") ?_
  with_reducible refine WGet.inst (by walk_at "hp") (by kernel_rfl) (by repeat (first | (with_reducible exact lk_head) | (with_reducible refine lk_tail (by kernel_rfl) ?_))) (by with_unfolding_all rfl) ?_
  with_reducible refine WTr.bool ?_
  cases hr : x.ready
  · rw [hr] at hx hq
    with_reducible refine if_ff ?_
    with_reducible refine WSs.nil ?_
    with_reducible refine WSs.cons ?_
    with_reducible refine WS.setAttr (by with_unfolding_all (first | exact fun _ _ => rfl | exact fun _ _ _ => rfl)) ?_
    with_reducible refine WE.bool ?_
    with_reducible refine WE.localA (by kernel_rfl) (by kernel_rfl) (by walk_at "lk") ?_
    refine WSet.inst' (fs' := [("share", .int x.share), ("clock", .int x.clock), ("ready", .bool true)]) hx (by kernel_rfl) (by kernel_rfl) (by simp) ?_
    have h1 : WheelD (σ.put x.a t (.inst a_Sharer [("share", .int x.share), ("clock", .int x.clock), ("ready", .bool true)])) W d t past (l.set k { x with ready := true }) := h.upd (y := { x with ready := true }) hk rfl rfl
    have hW1 : (σ.put x.a t (.inst a_Sharer [("share", .int x.share), ("clock", .int x.clock), ("ready", .bool true)])) W = some (t, .inst a_Wheel [("past", .int past), ("sharers", .ref d)]) := h1.whl
    with_reducible refine WSs.cons ?_
    with_reducible refine WS.setAttr (by with_unfolding_all (first | exact fun _ _ => rfl | exact fun _ _ _ => rfl)) ?_
    with_reducible refine WE.call rfl rfl ?_
    with_reducible refine WE.globalA (by kernel_rfl) g_max ?_
    with_reducible refine And.intro (Callee.con rfl) ?_
    with_reducible refine WEs.cons rfl ?_
    with_reducible refine WE.attr (by with_unfolding_all (first | exact fun _ _ => rfl | exact fun _ _ _ => rfl)) ?_
    with_reducible refine WE.localA (by kernel_rfl) (by kernel_rfl) (by walk_at "lk") ?_
    with_reducible refine WGet.inst (by walk_at "hp") (by kernel_rfl) (by repeat (first | (with_reducible exact lk_head) | (with_reducible refine lk_tail (by kernel_rfl) ?_))) (by with_unfolding_all rfl) ?_
    with_reducible refine WEs.cons rfl ?_
    with_reducible refine WE.attr (by with_unfolding_all (first | exact fun _ _ => rfl | exact fun _ _ _ => rfl)) ?_
    with_reducible refine WE.localA (by kernel_rfl) (by kernel_rfl) (by walk_at "lk") ?_
    with_reducible refine WGet.inst (by walk_at "hp") (by kernel_rfl) (by repeat (first | (with_reducible exact lk_head) | (with_reducible refine lk_tail (by kernel_rfl) ?_))) (by with_unfolding_all rfl) ?_
    with_reducible refine WEs.nil ?_
    refine WCall.max2 rfl ?_
    with_reducible refine WE.localA (by kernel_rfl) (by kernel_rfl) (by walk_at "lk") ?_
    refine WSet.inst' (fs' := [("share", .int x.share), ("clock", .int (if past > x.clock then past else x.clock)), ("ready", .bool true)]) Hp.self (by kernel_rfl) (by kernel_rfl) (by simp) ?_
    with_reducible refine WSs.cons ?_
    with_reducible refine WS.ret ?_
    with_reducible refine WE.bool ?_
    rw [Hp.put_put]
    have h2 := h.upd (y := woken past x) hk (by simp [woken, hr]) (by simp [woken, hr])
    have e : (woken past x).obj = .inst a_Sharer [("share", .int x.share), ("clock", .int (if past > x.clock then past else x.clock)), ("ready", .bool true)] := by simp [woken, hr, Shr.obj]
    rw [e] at h2
    exact hq _ h2 (Oth.put Oth.refl hx)
  · rw [hr] at hx hq
    with_reducible refine if_tt ?_
    with_reducible refine WSs.cons ?_
    with_reducible refine WS.ret ?_
    with_reducible refine WE.bool ?_
    have e : woken past x = x := by simp [woken, hr]
    rw [e, set_same hk] at hq
    exact hq _ h Oth.refl
theorem rest_c {W d t k : Nat} {past : Int} {l : List Shr} {x : Shr} (h : WheelD σ W d t past l) (hk : l[k]? = some x) (hq : ∀ σ', WheelD σ' W d t past (l.set k { x with ready := false }) → Oth t σ σ' → Q (.bool x.ready) σ') :
    WFn (cx w mean mg mb) ⟨n + 2, true, sc⟩ m_Wheel_rest [.ref W, .str x.name] ρ Q X σ := by
  have hW : σ W = some (t, .inst a_Wheel [("past", .int past), ("sharers", .ref d)]) := h.whl
  have hx : σ x.a = some (t, .inst a_Sharer [("share", .int x.share), ("clock", .int x.clock), ("ready", .bool x.ready)]) := h.shr x (List.mem_of_getElem? hk)
  refine WFn.fn2 (p1 := "self") (p2 := "name") ⟨⟨_, _, _, _, _, _, _, _, _, _, _, _, _, (rfl : (Mine.hd.heap_39 w.params).lookup m_Wheel_rest = _), by kernel_rfl, us2 fun _ _ => rfl⟩, by kernel_rfl⟩ ?_
  with_reducible refine WSs.cons ?_
  with_reducible refine WS.assign (by with_unfolding_all (first | exact fun _ _ => rfl | exact fun _ _ _ => rfl)) ?_
  with_reducible refine WE.method (by with_unfolding_all (first | exact fun _ _ => rfl | exact fun _ _ _ => rfl)) rfl rfl rfl ?_
  with_reducible refine WE.localA (by kernel_rfl) (by kernel_rfl) (by walk_at "lk") ?_
  with_reducible refine WM.inst (by walk_at "hp") ms_Wheel_need (by kernel_rfl) ?_
  with_reducible refine And.intro (Callee.meth ms_Wheel_need) ?_
  with_reducible refine WEs.cons rfl ?_
  with_reducible refine WE.localA (by kernel_rfl) (by kernel_rfl) (by walk_at "lk") ?_
  with_reducible refine WEs.nil ?_
  refine WCall.of_fn (need_c h hk ?_)
  with_reducible refine WSt.localA (by kernel_rfl) ?_
  with_reducible refine WSs.cons ?_
  with_reducible refine WS.ite ?_
  with_reducible refine WT.not ?_
  with_reducible refine WT.plain (by with_unfolding_all (first | exact fun _ _ => rfl | exact fun _ _ _ => rfl)) ?_
  with_reducible refine WE.attr (by with_unfolding_all (first | exact fun _ _ => rfl | exact fun _ _ _ => rfl)) ?_
  with_reducible refine WE.localA (by kernel_rfl) (by kernel_rfl) (by walk_at "lk") ?_
  with_reducible refine WGet.inst (by walk_at "hp") (by kernel_rfl) (by repeat (first | (with_reducible exact lk_head) | (with_reducible refine lk_tail (by kernel_rfl) ?_))) (by with_unfolding_all rfl) ?_
  with_reducible refine WTr.bool ?_
  cases hr : x.ready
  · rw [hr] at hx hq
    with_reducible refine if_nf ?_
    with_reducible refine WSs.cons ?_
    with_reducible refine WS.ret ?_
    with_reducible refine WE.bool ?_
    have e : ({ x with ready := false } : Shr) = x := by cases x; simp at hr; subst hr; rfl
    rw [e, set_same hk] at hq
    exact hq _ h Oth.refl
  · rw [hr] at hx hq
    with_reducible refine if_nt ?_
    with_reducible refine WSs.nil ?_
    with_reducible refine WSs.cons ?_
    with_reducible refine WS.setAttr (by with_unfolding_all (first | exact fun _ _ => rfl | exact fun _ _ _ => rfl)) ?_
    with_reducible refine WE.bool ?_
    with_reducible refine WE.localA (by kernel_rfl) (by kernel_rfl) (by walk_at "lk") ?_
    refine WSet.inst' (fs' := [("share", .int x.share), ("clock", .int x.clock), ("ready", .bool false)]) hx (by kernel_rfl) (by kernel_rfl) (by simp) ?_
    with_reducible refine WSs.cons ?_
    with_reducible refine WS.ret ?_
    with_reducible refine WE.bool ?_
    exact hq _ (h.upd (y := { x with ready := false }) hk rfl rfl) (Oth.put Oth.refl hx)
theorem whose_c {W d t : Nat} {past : Int} {l : List Shr} (h : WheelD σ W d t past l) (hz : l.length ≤ 1000000) (hq : ∀ b, Fresh σ b → Q (whoV (pick l Option.none)) (σ.put b t (.list ((ents l).map fun p => .str p.1)))) :
    WFn (cx w mean mg mb) ⟨n + 1, true, sc⟩ m_Wheel_whose [.ref W] ρ Q X σ := by
  have hW : σ W = some (t, .inst a_Wheel [("past", .int past), ("sharers", .ref d)]) := h.whl
  have hd := h.dic
  refine WFn.fn1 (p1 := "self") ⟨⟨_, _, _, _, _, _, _, _, _, _, _, _, _, (rfl : (Mine.hd.heap_39 w.params).lookup m_Wheel_whose = _), by kernel_rfl, us1 fun _ => rfl⟩, by kernel_rfl⟩ ?_
  with_reducible refine WSs.cons ?_
  with_reducible refine WS.assign (by with_unfolding_all (first | exact fun _ _ => rfl | exact fun _ _ _ => rfl)) ?_
  with_reducible refine WE.none ?_
  with_reducible refine WSt.localA (by kernel_rfl) ?_
  with_reducible refine WSs.cons ?_
  with_reducible refine WS.for rfl (by with_unfolding_all (first | exact fun _ _ => rfl | exact fun _ _ _ => rfl)) ?_
  with_reducible refine WE.call rfl rfl ?_
  with_reducible refine WE.globalA (by kernel_rfl) g_list ?_
  with_reducible refine And.intro (Callee.con rfl) ?_
  with_reducible refine WEs.cons rfl ?_
  with_reducible refine WE.attr (by with_unfolding_all (first | exact fun _ _ => rfl | exact fun _ _ _ => rfl)) ?_
  with_reducible refine WE.localA (by kernel_rfl) (by kernel_rfl) (by walk_at "lk") ?_
  with_reducible refine WGet.inst (by walk_at "hp") (by kernel_rfl) (by repeat (first | (with_reducible exact lk_head) | (with_reducible refine lk_tail (by kernel_rfl) ?_))) (by with_unfolding_all rfl) ?_
  with_reducible refine WEs.nil ?_
  refine WCall.listKeys t rfl hd (by simpa [ents] using hz) fun b hb => ?_
  have hW' : (σ.put b t (.list ((ents l).map fun p => .str p.1))) W = _ := Hp.new hb.none hW
  have hd' : (σ.put b t (.list ((ents l).map fun p => .str p.1))) d = _ := Hp.new hb.none hd
  have hs' : ∀ x ∈ l, (σ.put b t (.list ((ents l).map fun p => .str p.1))) x.a = some (t, .inst a_Sharer [("share", .int x.share), ("clock", .int x.clock), ("ready", .bool x.ready)]) := fun x hx => Hp.new hb.none (h.shr x hx)
  have hb' : (σ.put b t (.list ((ents l).map fun p => .str p.1))) b = _ := Hp.self
  have hq' := hq b hb
  refine ⟨_, _, Iterable.list (ListAt.own hb'), ?_⟩
  generalize σ.put b t (.list ((ents l).map fun p => .str p.1)) = σ1 at hW' hd' hs' hb' hq' ⊢
  refine WFor.byIdxO (fun j ρ' σ' => σ' = σ1 ∧ ρ' "self" = some (.ref W) ∧ ∃ f, ρ' "found" = some (whoV f) ∧ (∀ y, f = some y → ∃ k : Nat, l[k]? = some y) ∧ pick (l.drop j) f = pick l Option.none) ?_ ?_ ?_
  · exact ⟨rfl, by walk_at "lk", Option.none, by (change _ = some MV.none); walk_at "lk", (fun y hy => nomatch hy), rfl⟩
  · rintro j v ρ' σ' hv ⟨es, hself, f, hf, hfm, hp⟩
    subst es
    have hx : ∃ x, l[j]? = some x ∧ v = .str x.name := by
      simp only [ents, List.map_map, List.getElem?_map] at hv
      cases q : l[j]? with
      | none => rw [q] at hv; exact nomatch hv
      | some x => rw [q] at hv; exact ⟨x, rfl, (Option.some.inj hv).symm⟩
    obtain ⟨x, hx, rfl⟩ := hx
    have hdr : l.drop j = x :: l.drop (j + 1) := by
      obtain ⟨hlt, e⟩ := List.getElem?_eq_some_iff.mp hx
      rw [List.drop_eq_getElem_cons hlt, e]
    rw [hdr] at hp
    have hxo := hs' x (List.mem_of_getElem? hx)
    have hg : getK (ents l) x.name = some (.ref x.a) := getK_ents h.nn hx
    refine ⟨ListAt.own hb', ?_⟩
    intro KL hKL
    cases hr : x.ready
    · rw [hr] at hxo
      simp only [pick, hr, Bool.false_and] at hp
      with_reducible refine WSt.localA (by kernel_rfl) ?_
      with_reducible refine WSs.cons ?_
      with_reducible refine WS.assign (by with_unfolding_all (first | exact fun _ _ => rfl | exact fun _ _ _ => rfl)) ?_
      with_reducible refine WE.sub ?_
      with_reducible refine WE.attr (by with_unfolding_all (first | exact fun _ _ => rfl | exact fun _ _ _ => rfl)) ?_
      with_reducible refine WE.localA (by kernel_rfl) (by kernel_rfl) (by walk_at "lk") ?_
      with_reducible refine WGet.inst (by walk_at "hp") (by kernel_rfl) (by repeat (first | (with_reducible exact lk_head) | (with_reducible refine lk_tail (by kernel_rfl) ?_))) (by with_unfolding_all rfl) ?_
      with_reducible refine WE.localA (by kernel_rfl) (by kernel_rfl) (by walk_at "lk") ?_
      with_reducible refine WSub.sdict (by with_unfolding_all (first | exact fun _ _ => rfl | exact fun _ _ _ => rfl)) (by walk_at "hp") (by with_reducible assumption) ?_
      with_reducible refine WSt.localA (by kernel_rfl) ?_
      with_reducible refine WSs.cons ?_
      with_reducible refine WS.ite ?_
      with_reducible refine WT.bool ?_
      with_reducible refine WA.and ?_
      with_reducible refine WT.plain (by with_unfolding_all (first | exact fun _ _ => rfl | exact fun _ _ _ => rfl)) ?_
      with_reducible refine WE.attr (by with_unfolding_all (first | exact fun _ _ => rfl | exact fun _ _ _ => rfl)) ?_
      with_reducible refine WE.localA (by kernel_rfl) (by kernel_rfl) (by walk_at "lk") ?_
      with_reducible refine WGet.inst (by walk_at "hp") (by kernel_rfl) (by repeat (first | (with_reducible exact lk_head) | (with_reducible refine lk_tail (by kernel_rfl) ?_))) (by with_unfolding_all rfl) ?_
      with_reducible refine WTr.bool ?_
      with_reducible refine if_ff ?_
      with_reducible refine if_ff ?_
      with_reducible refine WSs.nil ?_
      with_reducible refine WSs.nil ?_
      exact hKL _ _ ⟨rfl, by walk_at "lk", f, by walk_at "lk", hfm, hp⟩
    · rw [hr] at hxo
      cases f with
      | none =>
        have hf' : ρ' "found" = some .none := hf
        clear hf
        simp only [pick, hr, better, Bool.and_self] at hp
        with_reducible refine WSt.localA (by kernel_rfl) ?_
        with_reducible refine WSs.cons ?_
        with_reducible refine WS.assign (by with_unfolding_all (first | exact fun _ _ => rfl | exact fun _ _ _ => rfl)) ?_
        with_reducible refine WE.sub ?_
        with_reducible refine WE.attr (by with_unfolding_all (first | exact fun _ _ => rfl | exact fun _ _ _ => rfl)) ?_
        with_reducible refine WE.localA (by kernel_rfl) (by kernel_rfl) (by walk_at "lk") ?_
        with_reducible refine WGet.inst (by walk_at "hp") (by kernel_rfl) (by repeat (first | (with_reducible exact lk_head) | (with_reducible refine lk_tail (by kernel_rfl) ?_))) (by with_unfolding_all rfl) ?_
        with_reducible refine WE.localA (by kernel_rfl) (by kernel_rfl) (by walk_at "lk") ?_
        with_reducible refine WSub.sdict (by with_unfolding_all (first | exact fun _ _ => rfl | exact fun _ _ _ => rfl)) (by walk_at "hp") (by with_reducible assumption) ?_
        with_reducible refine WSt.localA (by kernel_rfl) ?_
        with_reducible refine WSs.cons ?_
        with_reducible refine WS.ite ?_
        with_reducible refine WT.bool ?_
        with_reducible refine WA.and ?_
        with_reducible refine WT.plain (by with_unfolding_all (first | exact fun _ _ => rfl | exact fun _ _ _ => rfl)) ?_
        with_reducible refine WE.attr (by with_unfolding_all (first | exact fun _ _ => rfl | exact fun _ _ _ => rfl)) ?_
        with_reducible refine WE.localA (by kernel_rfl) (by kernel_rfl) (by walk_at "lk") ?_
        with_reducible refine WGet.inst (by walk_at "hp") (by kernel_rfl) (by repeat (first | (with_reducible exact lk_head) | (with_reducible refine lk_tail (by kernel_rfl) ?_))) (by with_unfolding_all rfl) ?_
        with_reducible refine WTr.bool ?_
        with_reducible refine if_tt ?_
        with_reducible refine WA.and ?_
        with_reducible refine WT.bool ?_
        with_reducible refine WA.or ?_
        with_reducible refine WT.cmp1 rfl ?_
        with_reducible refine WE.localA (by kernel_rfl) (by kernel_rfl) (by walk_at "lk") ?_
        with_reducible refine WE.none ?_
        with_reducible refine WC.isNN ?_
        with_reducible refine WTr.bool ?_
        with_reducible refine if_tt ?_
        with_reducible refine if_tt ?_
        with_reducible refine WA.and_nil ?_
        with_reducible refine if_tt ?_
        with_reducible refine WSs.cons ?_
        with_reducible refine WS.assign (by with_unfolding_all (first | exact fun _ _ => rfl | exact fun _ _ _ => rfl)) ?_
        with_reducible refine WE.localA (by kernel_rfl) (by kernel_rfl) (by walk_at "lk") ?_
        with_reducible refine WSt.localA (by kernel_rfl) ?_
        with_reducible refine WSs.nil ?_
        with_reducible refine WSs.nil ?_
        exact hKL _ _ ⟨rfl, by walk_at "lk", some x, by (change _ = some (MV.str x.name)); walk_at "lk", fun y hy => by cases hy; exact ⟨j, hx⟩, hp⟩
      | some y =>
        obtain ⟨k, hk⟩ := hfm y rfl
        have hf' : ρ' "found" = some (.str y.name) := hf
        clear hf
        have hyo := hs' y (List.mem_of_getElem? hk)
        have hgy : getK (ents l) y.name = some (.ref y.a) := getK_ents h.nn hk
        simp only [pick, hr, better, Bool.true_and] at hp
        by_cases hlt : x.clock < y.clock
        · rw [decide_eq_true hlt] at hp
          with_reducible refine WSt.localA (by kernel_rfl) ?_
          with_reducible refine WSs.cons ?_
          with_reducible refine WS.assign (by with_unfolding_all (first | exact fun _ _ => rfl | exact fun _ _ _ => rfl)) ?_
          with_reducible refine WE.sub ?_
          with_reducible refine WE.attr (by with_unfolding_all (first | exact fun _ _ => rfl | exact fun _ _ _ => rfl)) ?_
          with_reducible refine WE.localA (by kernel_rfl) (by kernel_rfl) (by walk_at "lk") ?_
          with_reducible refine WGet.inst (by walk_at "hp") (by kernel_rfl) (by repeat (first | (with_reducible exact lk_head) | (with_reducible refine lk_tail (by kernel_rfl) ?_))) (by with_unfolding_all rfl) ?_
          with_reducible refine WE.localA (by kernel_rfl) (by kernel_rfl) (by walk_at "lk") ?_
          with_reducible refine WSub.sdict (by with_unfolding_all (first | exact fun _ _ => rfl | exact fun _ _ _ => rfl)) (by walk_at "hp") (by with_reducible assumption) ?_
          with_reducible refine WSt.localA (by kernel_rfl) ?_
          with_reducible refine WSs.cons ?_
          with_reducible refine WS.ite ?_
          with_reducible refine WT.bool ?_
          with_reducible refine WA.and ?_
          with_reducible refine WT.plain (by with_unfolding_all (first | exact fun _ _ => rfl | exact fun _ _ _ => rfl)) ?_
          with_reducible refine WE.attr (by with_unfolding_all (first | exact fun _ _ => rfl | exact fun _ _ _ => rfl)) ?_
          with_reducible refine WE.localA (by kernel_rfl) (by kernel_rfl) (by walk_at "lk") ?_
          with_reducible refine WGet.inst (by walk_at "hp") (by kernel_rfl) (by repeat (first | (with_reducible exact lk_head) | (with_reducible refine lk_tail (by kernel_rfl) ?_))) (by with_unfolding_all rfl) ?_
          with_reducible refine WTr.bool ?_
          with_reducible refine if_tt ?_
          with_reducible refine WA.and ?_
          with_reducible refine WT.bool ?_
          with_reducible refine WA.or ?_
          with_reducible refine WT.cmp1 rfl ?_
          with_reducible refine WE.localA (by kernel_rfl) (by kernel_rfl) (by walk_at "lk") ?_
          with_reducible refine WE.none ?_
          with_reducible refine WC.isNS ?_
          with_reducible refine WTr.bool ?_
          with_reducible refine if_ff ?_
          with_reducible refine WA.or ?_
          with_reducible refine WT.cmp1 rfl ?_
          with_reducible refine WE.attr (by with_unfolding_all (first | exact fun _ _ => rfl | exact fun _ _ _ => rfl)) ?_
          with_reducible refine WE.localA (by kernel_rfl) (by kernel_rfl) (by walk_at "lk") ?_
          with_reducible refine WGet.inst (by walk_at "hp") (by kernel_rfl) (by repeat (first | (with_reducible exact lk_head) | (with_reducible refine lk_tail (by kernel_rfl) ?_))) (by with_unfolding_all rfl) ?_
          with_reducible refine WE.attr (by with_unfolding_all (first | exact fun _ _ => rfl | exact fun _ _ _ => rfl)) ?_
          with_reducible refine WE.sub ?_
          with_reducible refine WE.attr (by with_unfolding_all (first | exact fun _ _ => rfl | exact fun _ _ _ => rfl)) ?_
          with_reducible refine WE.localA (by kernel_rfl) (by kernel_rfl) (by walk_at "lk") ?_
          with_reducible refine WGet.inst (by walk_at "hp") (by kernel_rfl) (by repeat (first | (with_reducible exact lk_head) | (with_reducible refine lk_tail (by kernel_rfl) ?_))) (by with_unfolding_all rfl) ?_
          with_reducible refine WE.localA (by kernel_rfl) (by kernel_rfl) (by walk_at "lk") ?_
          with_reducible refine WSub.sdict (by with_unfolding_all (first | exact fun _ _ => rfl | exact fun _ _ _ => rfl)) (by walk_at "hp") (by with_reducible assumption) ?_
          with_reducible refine WGet.inst (by walk_at "hp") (by kernel_rfl) (by repeat (first | (with_reducible exact lk_head) | (with_reducible refine lk_tail (by kernel_rfl) ?_))) (by with_unfolding_all rfl) ?_
          with_reducible refine WC.lt ?_
          with_reducible refine WTr.bool ?_
          with_reducible refine if_dt (by with_reducible assumption) ?_
          with_reducible refine if_tt ?_
          with_reducible refine WA.and_nil ?_
          with_reducible refine if_tt ?_
          with_reducible refine WSs.cons ?_
          with_reducible refine WS.assign (by with_unfolding_all (first | exact fun _ _ => rfl | exact fun _ _ _ => rfl)) ?_
          with_reducible refine WE.localA (by kernel_rfl) (by kernel_rfl) (by walk_at "lk") ?_
          with_reducible refine WSt.localA (by kernel_rfl) ?_
          with_reducible refine WSs.nil ?_
          with_reducible refine WSs.nil ?_
          exact hKL _ _ ⟨rfl, by walk_at "lk", some x, by (change _ = some (MV.str x.name)); walk_at "lk", fun y hy => by cases hy; exact ⟨j, hx⟩, hp⟩
        · rw [decide_eq_false hlt] at hp
          with_reducible refine WSt.localA (by kernel_rfl) ?_
          with_reducible refine WSs.cons ?_
          with_reducible refine WS.assign (by with_unfolding_all (first | exact fun _ _ => rfl | exact fun _ _ _ => rfl)) ?_
          with_reducible refine WE.sub ?_
          with_reducible refine WE.attr (by with_unfolding_all (first | exact fun _ _ => rfl | exact fun _ _ _ => rfl)) ?_
          with_reducible refine WE.localA (by kernel_rfl) (by kernel_rfl) (by walk_at "lk") ?_
          with_reducible refine WGet.inst (by walk_at "hp") (by kernel_rfl) (by repeat (first | (with_reducible exact lk_head) | (with_reducible refine lk_tail (by kernel_rfl) ?_))) (by with_unfolding_all rfl) ?_
          with_reducible refine WE.localA (by kernel_rfl) (by kernel_rfl) (by walk_at "lk") ?_
          with_reducible refine WSub.sdict (by with_unfolding_all (first | exact fun _ _ => rfl | exact fun _ _ _ => rfl)) (by walk_at "hp") (by with_reducible assumption) ?_
          with_reducible refine WSt.localA (by kernel_rfl) ?_
          with_reducible refine WSs.cons ?_
          with_reducible refine WS.ite ?_
          with_reducible refine WT.bool ?_
          with_reducible refine WA.and ?_
          with_reducible refine WT.plain (by with_unfolding_all (first | exact fun _ _ => rfl | exact fun _ _ _ => rfl)) ?_
          with_reducible refine WE.attr (by with_unfolding_all (first | exact fun _ _ => rfl | exact fun _ _ _ => rfl)) ?_
          with_reducible refine WE.localA (by kernel_rfl) (by kernel_rfl) (by walk_at "lk") ?_
          with_reducible refine WGet.inst (by walk_at "hp") (by kernel_rfl) (by repeat (first | (with_reducible exact lk_head) | (with_reducible refine lk_tail (by kernel_rfl) ?_))) (by with_unfolding_all rfl) ?_
          with_reducible refine WTr.bool ?_
          with_reducible refine if_tt ?_
          with_reducible refine WA.and ?_
          with_reducible refine WT.bool ?_
          with_reducible refine WA.or ?_
          with_reducible refine WT.cmp1 rfl ?_
          with_reducible refine WE.localA (by kernel_rfl) (by kernel_rfl) (by walk_at "lk") ?_
          with_reducible refine WE.none ?_
          with_reducible refine WC.isNS ?_
          with_reducible refine WTr.bool ?_
          with_reducible refine if_ff ?_
          with_reducible refine WA.or ?_
          with_reducible refine WT.cmp1 rfl ?_
          with_reducible refine WE.attr (by with_unfolding_all (first | exact fun _ _ => rfl | exact fun _ _ _ => rfl)) ?_
          with_reducible refine WE.localA (by kernel_rfl) (by kernel_rfl) (by walk_at "lk") ?_
          with_reducible refine WGet.inst (by walk_at "hp") (by kernel_rfl) (by repeat (first | (with_reducible exact lk_head) | (with_reducible refine lk_tail (by kernel_rfl) ?_))) (by with_unfolding_all rfl) ?_
          with_reducible refine WE.attr (by with_unfolding_all (first | exact fun _ _ => rfl | exact fun _ _ _ => rfl)) ?_
          with_reducible refine WE.sub ?_
          with_reducible refine WE.attr (by with_unfolding_all (first | exact fun _ _ => rfl | exact fun _ _ _ => rfl)) ?_
          with_reducible refine WE.localA (by kernel_rfl) (by kernel_rfl) (by walk_at "lk") ?_
          with_reducible refine WGet.inst (by walk_at "hp") (by kernel_rfl) (by repeat (first | (with_reducible exact lk_head) | (with_reducible refine lk_tail (by kernel_rfl) ?_))) (by with_unfolding_all rfl) ?_
          with_reducible refine WE.localA (by kernel_rfl) (by kernel_rfl) (by walk_at "lk") ?_
          with_reducible refine WSub.sdict (by with_unfolding_all (first | exact fun _ _ => rfl | exact fun _ _ _ => rfl)) (by walk_at "hp") (by with_reducible assumption) ?_
          with_reducible refine WGet.inst (by walk_at "hp") (by kernel_rfl) (by repeat (first | (with_reducible exact lk_head) | (with_reducible refine lk_tail (by kernel_rfl) ?_))) (by with_unfolding_all rfl) ?_
          with_reducible refine WC.lt ?_
          with_reducible refine WTr.bool ?_
          with_reducible refine if_df (by with_reducible assumption) ?_
          with_reducible refine WA.or_nil ?_
          with_reducible refine if_ff ?_
          with_reducible refine if_ff ?_
          with_reducible refine WSs.nil ?_
          with_reducible refine WSs.nil ?_
          exact hKL _ _ ⟨rfl, by walk_at "lk", some y, by (change _ = some (MV.str y.name)); walk_at "lk", hfm, hp⟩
  · rintro ρ' σ' ⟨es, hself, f, hf, hfm, hp⟩
    subst es
    refine ⟨ListAt.own hb', ?_⟩
    have e : pick l Option.none = f := by
      rw [← hp, List.drop_eq_nil_of_le (by simp [ents])]
      rfl
    rw [e] at hq'
    with_reducible refine WSs.cons ?_
    with_reducible refine WS.ret ?_
    with_reducible refine WE.localA (by kernel_rfl) (by kernel_rfl) (by walk_at "lk") ?_
    exact hq'
theorem turn_c {W d t k : Nat} {past : Int} {l : List Shr} {x : Shr} (h : WheelD σ W d t past l) (hz : l.length ≤ 1000000) (hk : l[k]? = some x) (hp : pick l Option.none = some x) (h0 : 1 ≤ x.share) (h1 : x.share ≤ 12)
    (hq : ∀ σ', WheelD σ' W d t x.clock (l.set k (dealt x)) → Oth t σ σ' → Q (.str x.name) σ') : WFn (cx w mean mg mb) ⟨n + 3, true, sc⟩ m_Wheel_turn [.ref W] ρ Q X σ := by
  have hW : σ W = some (t, .inst a_Wheel [("past", .int past), ("sharers", .ref d)]) := h.whl
  refine WFn.fn1 (p1 := "self") ⟨⟨_, _, _, _, _, _, _, _, _, _, _, _, _, (rfl : (Mine.hd.heap_39 w.params).lookup m_Wheel_turn = _), by kernel_rfl, us1 fun _ => rfl⟩, by kernel_rfl⟩ ?_
  with_reducible refine WSs.cons ?_
  with_reducible refine WS.assign (by with_unfolding_all (first | exact fun _ _ => rfl | exact fun _ _ _ => rfl)) ?_
  with_reducible refine WE.method (by with_unfolding_all (first | exact fun _ _ => rfl | exact fun _ _ _ => rfl)) rfl rfl rfl ?_
  with_reducible refine WE.localA (by kernel_rfl) (by kernel_rfl) (by walk_at "lk") ?_
  with_reducible refine WM.inst (by walk_at "hp") ms_Wheel_whose (by kernel_rfl) ?_
  with_reducible refine And.intro (Callee.meth ms_Wheel_whose) ?_
  with_reducible refine WEs.nil ?_
  refine WCall.of_fn (whose_c h hz fun b hb => ?_)
  have h' : WheelD (σ.put b t (.list ((ents l).map fun p => .str p.1))) W d t past l := h.keep (Kpt.new hb.none)
  have ho : Oth t σ (σ.put b t (.list ((ents l).map fun p => .str p.1))) := Oth.refl.new hb.none
  generalize σ.put b t (.list ((ents l).map fun p => .str p.1)) = σ1 at h' ho ⊢
  rw [hp]
  show WSt _ _ _ (.str x.name) _ _ _ _
  have hW' : σ1 W = some (t, .inst a_Wheel [("past", .int past), ("sharers", .ref d)]) := h'.whl
  have hd' := h'.dic
  have hxo : σ1 x.a = some (t, .inst a_Sharer [("share", .int x.share), ("clock", .int x.clock), ("ready", .bool x.ready)]) := h'.shr x (List.mem_of_getElem? hk)
  have hg : getK (ents l) x.name = some (.ref x.a) := getK_ents h.nn hk
  have hnn : (MV.str x.name).isNone = false := rfl
  with_reducible refine WSt.localA (by kernel_rfl) ?_
  with_reducible refine WSs.cons ?_
  with_reducible refine WS.ite ?_
  with_reducible refine WT.cmp1 rfl ?_
  with_reducible refine WE.localA (by kernel_rfl) (by kernel_rfl) (by walk_at "lk") ?_
  with_reducible refine WE.none ?_
  with_reducible refine WC.isNS ?_
  with_reducible refine WTr.bool ?_
  with_reducible refine if_ff ?_
  with_reducible refine WSs.nil ?_
  with_reducible refine WSs.cons ?_
  with_reducible refine WS.assign (by with_unfolding_all (first | exact fun _ _ => rfl | exact fun _ _ _ => rfl)) ?_
  with_reducible refine WE.sub ?_
  with_reducible refine WE.attr (by with_unfolding_all (first | exact fun _ _ => rfl | exact fun _ _ _ => rfl)) ?_
  with_reducible refine WE.localA (by kernel_rfl) (by kernel_rfl) (by walk_at "lk") ?_
  with_reducible refine WGet.inst (by walk_at "hp") (by kernel_rfl) (by repeat (first | (with_reducible exact lk_head) | (with_reducible refine lk_tail (by kernel_rfl) ?_))) (by with_unfolding_all rfl) ?_
  with_reducible refine WE.localA (by kernel_rfl) (by kernel_rfl) (by walk_at "lk") ?_
  with_reducible refine WSub.sdict (by with_unfolding_all (first | exact fun _ _ => rfl | exact fun _ _ _ => rfl)) (by walk_at "hp") (by with_reducible assumption) ?_
  with_reducible refine WSt.localA (by kernel_rfl) ?_
  with_reducible refine WSs.cons ?_
  with_reducible refine WS.setAttr (by with_unfolding_all (first | exact fun _ _ => rfl | exact fun _ _ _ => rfl)) ?_
  with_reducible refine WE.attr (by with_unfolding_all (first | exact fun _ _ => rfl | exact fun _ _ _ => rfl)) ?_
  with_reducible refine WE.localA (by kernel_rfl) (by kernel_rfl) (by walk_at "lk") ?_
  with_reducible refine WGet.inst (by walk_at "hp") (by kernel_rfl) (by repeat (first | (with_reducible exact lk_head) | (with_reducible refine lk_tail (by kernel_rfl) ?_))) (by with_unfolding_all rfl) ?_
  with_reducible refine WE.localA (by kernel_rfl) (by kernel_rfl) (by walk_at "lk") ?_
  refine WSet.inst' (fs' := [("past", .int x.clock), ("sharers", .ref d)]) hW' (by kernel_rfl) (by kernel_rfl) (by simp) ?_
  have h2 : WheelD (σ1.put W t (.inst a_Wheel [("past", .int x.clock), ("sharers", .ref d)])) W d t x.clock l := h'.past
  have ho2 : Oth t σ (σ1.put W t (.inst a_Wheel [("past", .int x.clock), ("sharers", .ref d)])) := Oth.put ho hW'
  generalize σ1.put W t (.inst a_Wheel [("past", .int x.clock), ("sharers", .ref d)]) = σ2 at h2 ho2 ⊢
  have hxo2 : σ2 x.a = some (t, .inst a_Sharer [("share", .int x.share), ("clock", .int x.clock), ("ready", .bool x.ready)]) := h2.shr x (List.mem_of_getElem? hk)
  with_reducible refine WSs.cons ?_
  with_reducible refine WS.augAttr ?_
  with_reducible refine WE.localA (by kernel_rfl) (by kernel_rfl) (by walk_at "lk") ?_
  with_reducible refine WGet.inst (by walk_at "hp") (by kernel_rfl) (by repeat (first | (with_reducible exact lk_head) | (with_reducible refine lk_tail (by kernel_rfl) ?_))) (by with_unfolding_all rfl) ?_
  with_reducible refine WE.call rfl rfl ?_
  with_reducible refine WE.globalA (by kernel_rfl) g_step ?_
  with_reducible refine And.intro (Callee.fn fn_step) ?_
  with_reducible refine WEs.cons rfl ?_
  with_reducible refine WE.attr (by with_unfolding_all (first | exact fun _ _ => rfl | exact fun _ _ _ => rfl)) ?_
  with_reducible refine WE.localA (by kernel_rfl) (by kernel_rfl) (by walk_at "lk") ?_
  with_reducible refine WGet.inst (by walk_at "hp") (by kernel_rfl) (by repeat (first | (with_reducible exact lk_head) | (with_reducible refine lk_tail (by kernel_rfl) ?_))) (by with_unfolding_all rfl) ?_
  with_reducible refine WEs.nil ?_
  refine WCall.of_fn (step_ok h0 h1 ?_)
  with_reducible refine WI.add ?_
  refine WSet.inst' (fs' := [("share", .int x.share), ("clock", .int (x.clock + (27720 : Int).fdiv x.share)), ("ready", .bool x.ready)]) hxo2 (by kernel_rfl) (by kernel_rfl) (by simp) ?_
  with_reducible refine WSs.cons ?_
  with_reducible refine WS.ret ?_
  with_reducible refine WE.localA (by kernel_rfl) (by kernel_rfl) (by walk_at "lk") ?_
  exact hq _ (h2.upd (y := dealt x) hk rfl rfl) (Oth.put ho2 hxo2)
theorem share_c {W d t k : Nat} {past : Int} {l : List Shr} {x : Shr} (h : WheelD σ W d t past l) (hk : l[k]? = some x) (hq : Q (.int x.share) σ) : WFn (cx w mean mg mb) ⟨n + 2, true, sc⟩ m_Wheel_share_of [.ref W, .str x.name] ρ Q X σ := by
  have hW : σ W = some (t, .inst a_Wheel [("past", .int past), ("sharers", .ref d)]) := h.whl
  have hx : σ x.a = some (t, .inst a_Sharer [("share", .int x.share), ("clock", .int x.clock), ("ready", .bool x.ready)]) := h.shr x (List.mem_of_getElem? hk)
  refine WFn.fn2 (p1 := "self") (p2 := "name") ⟨⟨_, _, _, _, _, _, _, _, _, _, _, _, _, (rfl : (Mine.hd.heap_39 w.params).lookup m_Wheel_share_of = _), by kernel_rfl, us2 fun _ _ => rfl⟩, by kernel_rfl⟩ ?_
  with_reducible refine WSs.cons ?_
  with_reducible refine WS.ret ?_
  with_reducible refine WE.attr (by with_unfolding_all (first | exact fun _ _ => rfl | exact fun _ _ _ => rfl)) ?_
  with_reducible refine WE.method (by with_unfolding_all (first | exact fun _ _ => rfl | exact fun _ _ _ => rfl)) rfl rfl rfl ?_
  with_reducible refine WE.localA (by kernel_rfl) (by kernel_rfl) (by walk_at "lk") ?_
  with_reducible refine WM.inst (by walk_at "hp") ms_Wheel_need (by kernel_rfl) ?_
  with_reducible refine And.intro (Callee.meth ms_Wheel_need) ?_
  with_reducible refine WEs.cons rfl ?_
  with_reducible refine WE.localA (by kernel_rfl) (by kernel_rfl) (by walk_at "lk") ?_
  with_reducible refine WEs.nil ?_
  refine WCall.of_fn (need_c h hk ?_)
  with_reducible refine WGet.inst (by walk_at "hp") (by kernel_rfl) (by repeat (first | (with_reducible exact lk_head) | (with_reducible refine lk_tail (by kernel_rfl) ?_))) (by with_unfolding_all rfl) ?_
  exact hq
theorem names_c (t' : Nat) {W d t : Nat} {past : Int} {l : List Shr} (h : WheelD σ W d t past l) (hz : l.length ≤ 1000000) (hq : ∀ b, Fresh σ b → Q (.ref b) (σ.put b t' (.list ((l.map (·.name)).map .str)))) : WFn (cx w mean mg mb) ⟨n + 1, true, sc⟩ m_Wheel_names [.ref W] ρ Q X σ := by
  have hW : σ W = some (t, .inst a_Wheel [("past", .int past), ("sharers", .ref d)]) := h.whl
  refine WFn.fn1 (p1 := "self") ⟨⟨_, _, _, _, _, _, _, _, _, _, _, _, _, (rfl : (Mine.hd.heap_39 w.params).lookup m_Wheel_names = _), by kernel_rfl, us1 fun _ => rfl⟩, by kernel_rfl⟩ ?_
  with_reducible refine WSs.cons ?_
  with_reducible refine WS.ret ?_
  with_reducible refine WE.call rfl rfl ?_
  with_reducible refine WE.globalA (by kernel_rfl) g_list ?_
  with_reducible refine And.intro (Callee.con rfl) ?_
  with_reducible refine WEs.cons rfl ?_
  with_reducible refine WE.attr (by with_unfolding_all (first | exact fun _ _ => rfl | exact fun _ _ _ => rfl)) ?_
  with_reducible refine WE.localA (by kernel_rfl) (by kernel_rfl) (by walk_at "lk") ?_
  with_reducible refine WGet.inst (by walk_at "hp") (by kernel_rfl) (by repeat (first | (with_reducible exact lk_head) | (with_reducible refine lk_tail (by kernel_rfl) ?_))) (by with_unfolding_all rfl) ?_
  with_reducible refine WEs.nil ?_
  refine WCall.listKeys t' rfl h.dic (by simpa [ents] using hz) fun b hb => ?_
  skip
  have e : (ents l).map (fun p => MV.str p.1) = (l.map (·.name)).map .str := by simp [ents]
  rw [e]
  exact hq b hb
theorem delK_ents {l : List Shr} {k : Nat} {x : Shr} (nd : (l.map (·.name)).Nodup) (hk : l[k]? = some x) : delK (ents l) x.name = ents (l.eraseIdx k) := by
  unfold delK ents
  induction l generalizing k with
  | nil => simp at hk
  | cons y l ih =>
    simp only [List.map_cons, List.nodup_cons] at nd
    cases k with
    | zero =>
      simp at hk; subst hk
      simp only [List.map_cons, List.eraseIdx_cons_zero]
      rw [List.filter_cons_of_neg (by simp)]
      refine List.filter_eq_self.mpr fun p hp => ?_
      obtain ⟨z, hz, rfl⟩ := List.mem_map.mp hp
      simp only [ne_eq, decide_eq_true_eq]
      exact fun q => nd.1 (List.mem_map.mpr ⟨z, hz, q⟩)
    | succ k =>
      simp only [List.getElem?_cons_succ] at hk
      simp only [List.map_cons, List.eraseIdx_cons_succ]
      rw [List.filter_cons_of_pos, ih nd.2 hk]
      simp only [ne_eq, decide_eq_true_eq]
      exact fun q => nd.1 (q ▸ List.mem_map.mpr ⟨x, List.mem_of_getElem? hk, rfl⟩)
theorem WheelD.leave {σ : Hp} {W d t : Nat} {past : Int} {l : List Shr} (h : WheelD σ W d t past l) (k : Nat) : WheelD (σ.put d t (.sdict (ents (l.eraseIdx k)))) W d t past (l.eraseIdx k) where
  whl := Hp.ne (fun q => by have := h.dic; rw [← q, h.whl] at this; simp [wObj] at this) h.whl
  dic := Hp.self
  shr := fun z hz => Hp.ne (fun q => by have := h.dic; rw [← q, h.shr z (List.mem_of_mem_eraseIdx hz)] at this; simp [Shr.obj] at this) (h.shr z (List.mem_of_mem_eraseIdx hz))
  nn := List.Nodup.sublist (List.Sublist.map _ (List.eraseIdx_sublist l k)) h.nn
  na := List.Nodup.sublist (List.Sublist.map _ (List.eraseIdx_sublist l k)) h.na
theorem leave_c {W d t k : Nat} {past : Int} {l : List Shr} {x : Shr} (h : WheelD σ W d t past l) (hz : l.length ≤ 1000000) (hk : l[k]? = some x) (hq : ∀ σ', WheelD σ' W d t past (l.eraseIdx k) → Oth t σ σ' → Q .none σ') :
    WFn (cx w mean mg mb) ⟨n + 2, true, sc⟩ m_Wheel_leave [.ref W, .str x.name] ρ Q X σ := by
  have hW : σ W = some (t, .inst a_Wheel [("past", .int past), ("sharers", .ref d)]) := h.whl
  refine WFn.fn2 (p1 := "self") (p2 := "name") ⟨⟨_, _, _, _, _, _, _, _, _, _, _, _, _, (rfl : (Mine.hd.heap_39 w.params).lookup m_Wheel_leave = _), by kernel_rfl, us2 fun _ _ => rfl⟩, by kernel_rfl⟩ ?_
  with_reducible refine WSs.cons ?_
  with_reducible refine WS.expr (by with_unfolding_all (first | exact fun _ _ => rfl | exact fun _ _ _ => rfl)) ?_
  with_reducible refine WE.method (by with_unfolding_all (first | exact fun _ _ => rfl | exact fun _ _ _ => rfl)) rfl rfl rfl ?_
  with_reducible refine WE.localA (by kernel_rfl) (by kernel_rfl) (by walk_at "lk") ?_
  with_reducible refine WM.inst (by walk_at "hp") ms_Wheel_need (by kernel_rfl) ?_
  with_reducible refine And.intro (Callee.meth ms_Wheel_need) ?_
  with_reducible refine WEs.cons rfl ?_
  with_reducible refine WE.localA (by kernel_rfl) (by kernel_rfl) (by walk_at "lk") ?_
  with_reducible refine WEs.nil ?_
  refine WCall.of_fn (need_c h hk ?_)
  with_reducible refine WSs.cons ?_
  with_reducible refine WS.expr (by with_unfolding_all (first | exact fun _ _ => rfl | exact fun _ _ _ => rfl)) ?_
  with_reducible refine WE.method (by with_unfolding_all (first | exact fun _ _ => rfl | exact fun _ _ _ => rfl)) rfl rfl rfl ?_
  with_reducible refine WE.attr (by with_unfolding_all (first | exact fun _ _ => rfl | exact fun _ _ _ => rfl)) ?_
  with_reducible refine WE.localA (by kernel_rfl) (by kernel_rfl) (by walk_at "lk") ?_
  with_reducible refine WGet.inst (by walk_at "hp") (by kernel_rfl) (by repeat (first | (with_reducible exact lk_head) | (with_reducible refine lk_tail (by kernel_rfl) ?_))) (by with_unfolding_all rfl) ?_
  refine WM.dictPop h.dic ?_
  with_reducible refine And.intro (Callee.con rfl) ?_
  with_reducible refine WEs.cons rfl ?_
  with_reducible refine WE.localA (by kernel_rfl) (by kernel_rfl) (by walk_at "lk") ?_
  with_reducible refine WEs.nil ?_
  refine WCall.dictPop h.dic (by simpa [ents] using hz) (getK_ents h.nn hk) ?_
  rw [delK_ents h.nn hk]
  with_reducible refine WSs.nil ?_
  exact hq _ (h.leave k) (Oth.put Oth.refl h.dic)
def shared (past share : Int) (x : Shr) : Shr := { x with share := share, clock := if past < x.clock then past + ((x.clock - past) * (27720 : Int).fdiv share).fdiv ((27720 : Int).fdiv x.share) else x.clock }
theorem stepB {k : Int} (h0 : 1 ≤ k) (h1 : k ≤ 12) : 2310 ≤ (27720 : Int).fdiv k ∧ (27720 : Int).fdiv k ≤ 27720 := by
  rw [Int.fdiv_eq_ediv_of_nonneg _ (le0 h0)]
  exact ⟨(Int.le_ediv_iff_mul_le (lt0 h0)).mpr (Int.le_trans (Int.mul_le_mul_of_nonneg_left h1 (by decide)) (by decide)), Int.ediv_le_self _ (by decide)⟩
theorem sh_lo (a : Int) : 1 ≤ 1 + a.fmod 12 := Int.le_add_of_nonneg_right (fmod_ge a (by decide))
theorem sh_hi (a : Int) : 1 + a.fmod 12 ≤ 12 := by rw [Int.add_comm]; exact Int.add_one_le_of_lt (fmod_lt a (by decide))
theorem stepMul {a k : Int} (h0 : 1 ≤ k) (h1 : k ≤ 12) : IntMulOk a ((27720 : Int).fdiv k) :=
  IntMulOk.of_right (intBits_le_iff.mpr (by have := stepB h0 h1; walk_at "om"))
theorem reshare_c {W d t k : Nat} {past share : Int} {l : List Shr} {x : Shr} (h : WheelD σ W d t past l) (hk : l[k]? = some x) (h0 : 1 ≤ share) (h1 : share ≤ 12) (g0 : 1 ≤ x.share) (g1 : x.share ≤ 12)
    (hq : ∀ σ', WheelD σ' W d t past (l.set k (shared past share x)) → Oth t σ σ' → Q .none σ') : WFn (cx w mean mg mb) ⟨n + 3, true, sc⟩ m_Wheel_reshare [.ref W, .str x.name, .int share] ρ Q X σ := by
  have hW : σ W = some (t, .inst a_Wheel [("past", .int past), ("sharers", .ref d)]) := h.whl
  have hx : σ x.a = some (t, .inst a_Sharer [("share", .int x.share), ("clock", .int x.clock), ("ready", .bool x.ready)]) := h.shr x (List.mem_of_getElem? hk)
  have z0 : (27720 : Int).fdiv x.share ≠ 0 := by have := stepB g0 g1; walk_at "om"
  have z1 : ((27720 : Int).fdiv x.share).natAbs < 1073741824 := by have := stepB g0 g1; walk_at "om"
  refine WFn.fn3 (p1 := "self") (p2 := "name") (p3 := "share") ⟨⟨_, _, _, _, _, _, _, _, _, _, _, _, _, (rfl : (Mine.hd.heap_39 w.params).lookup m_Wheel_reshare = _), by kernel_rfl, us3 fun _ _ _ => rfl⟩, by kernel_rfl⟩ ?_
  with_reducible refine WSs.cons ?_
  with_reducible refine WS.assign (by with_unfolding_all (first | exact fun _ _ => rfl | exact fun _ _ _ => rfl)) ?_
  with_reducible refine WE.method (by with_unfolding_all (first | exact fun _ _ => rfl | exact fun _ _ _ => rfl)) rfl rfl rfl ?_
  with_reducible refine WE.localA (by kernel_rfl) (by kernel_rfl) (by walk_at "lk") ?_
  with_reducible refine WM.inst (by walk_at "hp") ms_Wheel_need (by kernel_rfl) ?_
  with_reducible refine And.intro (Callee.meth ms_Wheel_need) ?_
  with_reducible refine WEs.cons rfl ?_
  with_reducible refine WE.localA (by kernel_rfl) (by kernel_rfl) (by walk_at "lk") ?_
  with_reducible refine WEs.nil ?_
  refine WCall.of_fn (need_c h hk ?_)
  with_reducible refine WSt.localA (by kernel_rfl) ?_
  with_reducible refine WSs.cons ?_
  with_reducible refine WS.assign (by with_unfolding_all (first | exact fun _ _ => rfl | exact fun _ _ _ => rfl)) ?_
  with_reducible refine WE.call rfl rfl ?_
  with_reducible refine WE.globalA (by kernel_rfl) g_step ?_
  with_reducible refine And.intro (Callee.fn fn_step) ?_
  with_reducible refine WEs.cons rfl ?_
  with_reducible refine WE.localA (by kernel_rfl) (by kernel_rfl) (by walk_at "lk") ?_
  with_reducible refine WEs.nil ?_
  refine WCall.of_fn (step_ok h0 h1 ?_)
  by_cases hlt : past < x.clock
  · skip
    with_reducible refine WSt.localA (by kernel_rfl) ?_
    with_reducible refine WSs.cons ?_
    with_reducible refine WS.ite ?_
    with_reducible refine WT.cmp1 rfl ?_
    with_reducible refine WE.attr (by with_unfolding_all (first | exact fun _ _ => rfl | exact fun _ _ _ => rfl)) ?_
    with_reducible refine WE.localA (by kernel_rfl) (by kernel_rfl) (by walk_at "lk") ?_
    with_reducible refine WGet.inst (by walk_at "hp") (by kernel_rfl) (by repeat (first | (with_reducible exact lk_head) | (with_reducible refine lk_tail (by kernel_rfl) ?_))) (by with_unfolding_all rfl) ?_
    with_reducible refine WE.attr (by with_unfolding_all (first | exact fun _ _ => rfl | exact fun _ _ _ => rfl)) ?_
    with_reducible refine WE.localA (by kernel_rfl) (by kernel_rfl) (by walk_at "lk") ?_
    with_reducible refine WGet.inst (by walk_at "hp") (by kernel_rfl) (by repeat (first | (with_reducible exact lk_head) | (with_reducible refine lk_tail (by kernel_rfl) ?_))) (by with_unfolding_all rfl) ?_
    with_reducible refine WC.gt ?_
    with_reducible refine WTr.bool ?_
    with_reducible refine if_dt (by with_reducible assumption) ?_
    with_reducible refine WSs.cons ?_
    with_reducible refine WS.setAttr (by with_unfolding_all (first | exact fun _ _ => rfl | exact fun _ _ _ => rfl)) ?_
    with_reducible refine WE.binop ?_
    with_reducible refine WE.attr (by with_unfolding_all (first | exact fun _ _ => rfl | exact fun _ _ _ => rfl)) ?_
    with_reducible refine WE.localA (by kernel_rfl) (by kernel_rfl) (by walk_at "lk") ?_
    with_reducible refine WGet.inst (by walk_at "hp") (by kernel_rfl) (by repeat (first | (with_reducible exact lk_head) | (with_reducible refine lk_tail (by kernel_rfl) ?_))) (by with_unfolding_all rfl) ?_
    with_reducible refine WE.binop ?_
    with_reducible refine WE.binop ?_
    with_reducible refine WE.binop ?_
    with_reducible refine WE.attr (by with_unfolding_all (first | exact fun _ _ => rfl | exact fun _ _ _ => rfl)) ?_
    with_reducible refine WE.localA (by kernel_rfl) (by kernel_rfl) (by walk_at "lk") ?_
    with_reducible refine WGet.inst (by walk_at "hp") (by kernel_rfl) (by repeat (first | (with_reducible exact lk_head) | (with_reducible refine lk_tail (by kernel_rfl) ?_))) (by with_unfolding_all rfl) ?_
    with_reducible refine WE.attr (by with_unfolding_all (first | exact fun _ _ => rfl | exact fun _ _ _ => rfl)) ?_
    with_reducible refine WE.localA (by kernel_rfl) (by kernel_rfl) (by walk_at "lk") ?_
    with_reducible refine WGet.inst (by walk_at "hp") (by kernel_rfl) (by repeat (first | (with_reducible exact lk_head) | (with_reducible refine lk_tail (by kernel_rfl) ?_))) (by with_unfolding_all rfl) ?_
    with_reducible refine WB.sub ?_
    with_reducible refine WE.localA (by kernel_rfl) (by kernel_rfl) (by walk_at "lk") ?_
    refine WB.mul (stepMul h0 h1) ?_
    with_reducible refine WE.call rfl rfl ?_
    with_reducible refine WE.globalA (by kernel_rfl) g_step ?_
    with_reducible refine And.intro (Callee.fn fn_step) ?_
    with_reducible refine WEs.cons rfl ?_
    with_reducible refine WE.attr (by with_unfolding_all (first | exact fun _ _ => rfl | exact fun _ _ _ => rfl)) ?_
    with_reducible refine WE.localA (by kernel_rfl) (by kernel_rfl) (by walk_at "lk") ?_
    with_reducible refine WGet.inst (by walk_at "hp") (by kernel_rfl) (by repeat (first | (with_reducible exact lk_head) | (with_reducible refine lk_tail (by kernel_rfl) ?_))) (by with_unfolding_all rfl) ?_
    with_reducible refine WEs.nil ?_
    refine WCall.of_fn (step_ok g0 g1 ?_)
    with_reducible refine WB.div (by walk_at "ar") (by walk_at "ar") ?_
    with_reducible refine WB.add ?_
    with_reducible refine WE.localA (by kernel_rfl) (by kernel_rfl) (by walk_at "lk") ?_
    refine WSet.inst' (fs' := [("share", .int x.share), ("clock", .int (past + ((x.clock - past) * (27720 : Int).fdiv share).fdiv ((27720 : Int).fdiv x.share))), ("ready", .bool x.ready)]) hx (by kernel_rfl) (by kernel_rfl) (by simp) ?_
    with_reducible refine WSs.nil ?_
    with_reducible refine WSs.cons ?_
    with_reducible refine WS.setAttr (by with_unfolding_all (first | exact fun _ _ => rfl | exact fun _ _ _ => rfl)) ?_
    with_reducible refine WE.localA (by kernel_rfl) (by kernel_rfl) (by walk_at "lk") ?_
    with_reducible refine WE.localA (by kernel_rfl) (by kernel_rfl) (by walk_at "lk") ?_
    refine WSet.inst' (fs' := [("share", .int share), ("clock", .int (past + ((x.clock - past) * (27720 : Int).fdiv share).fdiv ((27720 : Int).fdiv x.share))), ("ready", .bool x.ready)]) Hp.self (by kernel_rfl) (by kernel_rfl) (by simp) ?_
    with_reducible refine WSs.nil ?_
    rw [Hp.put_put]
    have h2 := h.upd (y := shared past share x) hk rfl rfl
    have e : (shared past share x).obj = .inst a_Sharer [("share", .int share), ("clock", .int (past + ((x.clock - past) * (27720 : Int).fdiv share).fdiv ((27720 : Int).fdiv x.share))), ("ready", .bool x.ready)] := by simp [shared, hlt, Shr.obj]
    rw [e] at h2
    exact hq _ h2 (Oth.put Oth.refl hx)
  · skip
    with_reducible refine WSt.localA (by kernel_rfl) ?_
    with_reducible refine WSs.cons ?_
    with_reducible refine WS.ite ?_
    with_reducible refine WT.cmp1 rfl ?_
    with_reducible refine WE.attr (by with_unfolding_all (first | exact fun _ _ => rfl | exact fun _ _ _ => rfl)) ?_
    with_reducible refine WE.localA (by kernel_rfl) (by kernel_rfl) (by walk_at "lk") ?_
    with_reducible refine WGet.inst (by walk_at "hp") (by kernel_rfl) (by repeat (first | (with_reducible exact lk_head) | (with_reducible refine lk_tail (by kernel_rfl) ?_))) (by with_unfolding_all rfl) ?_
    with_reducible refine WE.attr (by with_unfolding_all (first | exact fun _ _ => rfl | exact fun _ _ _ => rfl)) ?_
    with_reducible refine WE.localA (by kernel_rfl) (by kernel_rfl) (by walk_at "lk") ?_
    with_reducible refine WGet.inst (by walk_at "hp") (by kernel_rfl) (by repeat (first | (with_reducible exact lk_head) | (with_reducible refine lk_tail (by kernel_rfl) ?_))) (by with_unfolding_all rfl) ?_
    with_reducible refine WC.gt ?_
    with_reducible refine WTr.bool ?_
    with_reducible refine if_df (by with_reducible assumption) ?_
    with_reducible refine WSs.nil ?_
    with_reducible refine WSs.cons ?_
    with_reducible refine WS.setAttr (by with_unfolding_all (first | exact fun _ _ => rfl | exact fun _ _ _ => rfl)) ?_
    with_reducible refine WE.localA (by kernel_rfl) (by kernel_rfl) (by walk_at "lk") ?_
    with_reducible refine WE.localA (by kernel_rfl) (by kernel_rfl) (by walk_at "lk") ?_
    refine WSet.inst' (fs' := [("share", .int share), ("clock", .int x.clock), ("ready", .bool x.ready)]) hx (by kernel_rfl) (by kernel_rfl) (by simp) ?_
    with_reducible refine WSs.nil ?_
    have h2 := h.upd (y := shared past share x) hk rfl rfl
    have e : (shared past share x).obj = .inst a_Sharer [("share", .int share), ("clock", .int x.clock), ("ready", .bool x.ready)] := by simp [shared, hlt, Shr.obj]
    rw [e] at h2
    exact hq _ h2 (Oth.put Oth.refl hx)
theorem turn_none_c {W d t : Nat} {past : Int} {l : List Shr} (h : WheelD σ W d t past l) (hz : l.length ≤ 1000000) (hp : pick l Option.none = Option.none)
    (hq : ∀ σ', WheelD σ' W d t past l → Oth t σ σ' → Q .none σ') : WFn (cx w mean mg mb) ⟨n + 3, true, sc⟩ m_Wheel_turn [.ref W] ρ Q X σ := by
  have hW : σ W = some (t, .inst a_Wheel [("past", .int past), ("sharers", .ref d)]) := h.whl
  refine WFn.fn1 (p1 := "self") ⟨⟨_, _, _, _, _, _, _, _, _, _, _, _, _, (rfl : (Mine.hd.heap_39 w.params).lookup m_Wheel_turn = _), by kernel_rfl, us1 fun _ => rfl⟩, by kernel_rfl⟩ ?_
  with_reducible refine WSs.cons ?_
  with_reducible refine WS.assign (by with_unfolding_all (first | exact fun _ _ => rfl | exact fun _ _ _ => rfl)) ?_
  with_reducible refine WE.method (by with_unfolding_all (first | exact fun _ _ => rfl | exact fun _ _ _ => rfl)) rfl rfl rfl ?_
  with_reducible refine WE.localA (by kernel_rfl) (by kernel_rfl) (by walk_at "lk") ?_
  with_reducible refine WM.inst (by walk_at "hp") ms_Wheel_whose (by kernel_rfl) ?_
  with_reducible refine And.intro (Callee.meth ms_Wheel_whose) ?_
  with_reducible refine WEs.nil ?_
  refine WCall.of_fn (whose_c h hz fun b hb => ?_)
  rw [hp]
  show WSt _ _ _ .none _ _ _ _
  with_reducible refine WSt.localA (by kernel_rfl) ?_
  with_reducible refine WSs.cons ?_
  with_reducible refine WS.ite ?_
  with_reducible refine WT.cmp1 rfl ?_
  with_reducible refine WE.localA (by kernel_rfl) (by kernel_rfl) (by walk_at "lk") ?_
  with_reducible refine WE.none ?_
  with_reducible refine WC.isNN ?_
  with_reducible refine WTr.bool ?_
  with_reducible refine if_tt ?_
  with_reducible refine WSs.cons ?_
  with_reducible refine WS.ret ?_
  with_reducible refine WE.none ?_
  exact hq _ (h.keep (Kpt.new hb.none)) (Oth.refl.new hb.none)
theorem is_whole_not {v lo hi : MV} {t : Value} (k : KindOf σ v t) (h : kitOne (cx w mean mg mb).K t (.type "bool") = some true ∨ (kitOne (cx w mean mg mb).K t (.type "bool") = some false ∧ kitOne (cx w mean mg mb).K t (.type "int") = some false)) (hq : Q (.bool false) σ) : WFn (cx w mean mg mb) ⟨n + 1, true, sc⟩ a_is_whole [v, lo, hi] ρ Q X σ := by
  refine WFn.fn3 (p1 := "thing") (p2 := "least") (p3 := "most") ⟨⟨_, _, _, _, _, _, _, _, _, _, _, _, _, (rfl : (Mine.hd.heap_39 w.params).lookup a_is_whole = _), by kernel_rfl, us3 fun _ _ _ => rfl⟩, by kernel_rfl⟩ ?_
  rcases h with h | ⟨h, h'⟩
  · skip
    with_reducible refine WSs.cons ?_
    with_reducible refine WS.ite ?_
    with_reducible refine WT.bool ?_
    with_reducible refine WA.or ?_
    with_reducible refine WT.plain (by with_unfolding_all (first | exact fun _ _ => rfl | exact fun _ _ _ => rfl)) ?_
    with_reducible refine WE.call rfl rfl ?_
    with_reducible refine WE.globalA (by kernel_rfl) g_isinstance ?_
    with_reducible refine And.intro (Callee.con rfl) ?_
    with_reducible refine WEs.cons rfl ?_
    with_reducible refine WE.localA (by kernel_rfl) (by kernel_rfl) (by walk_at "lk") ?_
    with_reducible refine WEs.cons rfl ?_
    with_reducible refine WE.globalA (by kernel_rfl) g_bool ?_
    with_reducible refine WEs.nil ?_
    with_reducible refine WCall.isinstance (by first | with_reducible assumption | (with_reducible exact KindOf.int) | (with_reducible exact KindOf.str) | (with_reducible exact KindOf.bool) | (with_reducible exact KindOf.none) | ((with_reducible apply KindOf.list); walk_at "hp") | ((with_reducible apply KindOf.tuple); walk_at "hp")) (by with_reducible assumption) ?_
    with_reducible refine WTr.bool ?_
    with_reducible refine if_tt ?_
    with_reducible refine if_tt ?_
    with_reducible refine WSs.cons ?_
    with_reducible refine WS.ret ?_
    with_reducible refine WE.bool ?_
    exact hq
  · skip
    with_reducible refine WSs.cons ?_
    with_reducible refine WS.ite ?_
    with_reducible refine WT.bool ?_
    with_reducible refine WA.or ?_
    with_reducible refine WT.plain (by with_unfolding_all (first | exact fun _ _ => rfl | exact fun _ _ _ => rfl)) ?_
    with_reducible refine WE.call rfl rfl ?_
    with_reducible refine WE.globalA (by kernel_rfl) g_isinstance ?_
    with_reducible refine And.intro (Callee.con rfl) ?_
    with_reducible refine WEs.cons rfl ?_
    with_reducible refine WE.localA (by kernel_rfl) (by kernel_rfl) (by walk_at "lk") ?_
    with_reducible refine WEs.cons rfl ?_
    with_reducible refine WE.globalA (by kernel_rfl) g_bool ?_
    with_reducible refine WEs.nil ?_
    with_reducible refine WCall.isinstance (by first | with_reducible assumption | (with_reducible exact KindOf.int) | (with_reducible exact KindOf.str) | (with_reducible exact KindOf.bool) | (with_reducible exact KindOf.none) | ((with_reducible apply KindOf.list); walk_at "hp") | ((with_reducible apply KindOf.tuple); walk_at "hp")) (by with_reducible assumption) ?_
    with_reducible refine WTr.bool ?_
    with_reducible refine if_ff ?_
    with_reducible refine WA.or ?_
    with_reducible refine WT.not ?_
    with_reducible refine WT.plain (by with_unfolding_all (first | exact fun _ _ => rfl | exact fun _ _ _ => rfl)) ?_
    with_reducible refine WE.call rfl rfl ?_
    with_reducible refine WE.globalA (by kernel_rfl) g_isinstance ?_
    with_reducible refine And.intro (Callee.con rfl) ?_
    with_reducible refine WEs.cons rfl ?_
    with_reducible refine WE.localA (by kernel_rfl) (by kernel_rfl) (by walk_at "lk") ?_
    with_reducible refine WEs.cons rfl ?_
    with_reducible refine WE.globalA (by kernel_rfl) g_int ?_
    with_reducible refine WEs.nil ?_
    with_reducible refine WCall.isinstance (by first | with_reducible assumption | (with_reducible exact KindOf.int) | (with_reducible exact KindOf.str) | (with_reducible exact KindOf.bool) | (with_reducible exact KindOf.none) | ((with_reducible apply KindOf.list); walk_at "hp") | ((with_reducible apply KindOf.tuple); walk_at "hp")) (by with_reducible assumption) ?_
    with_reducible refine WTr.bool ?_
    with_reducible refine if_nf ?_
    with_reducible refine if_tt ?_
    with_reducible refine WSs.cons ?_
    with_reducible refine WS.ret ?_
    with_reducible refine WE.bool ?_
    exact hq
abbrev Extd (σ σ' : Hp) : Prop := ∀ a p, σ a = some p → σ' a = some p
def core (x : Shr) : Str × Int × Int × Bool := (x.name, x.share, x.clock, x.ready)
theorem core_name {l l' : List Shr} (h : l'.map core = l.map core) : l'.map (·.name) = l.map (·.name) := by
  have := congrArg (List.map (·.1)) h
  rw [List.map_map, List.map_map] at this
  exact this
theorem make_wheelF (t : Nat) (h : ∀ W d σ', σ W = Option.none → σ d = Option.none → WheelD σ' W d t 0 [] → Extd σ σ' → Q (.ref W) σ') :
    WFn (cx w mean mg mb) ⟨n + 2, true, sc⟩ a_Wheel [] ρ Q X σ := by
  refine WFn.make t mi_Wheel fun b hb hbn => ?_
  refine WFn.fn1 (p1 := "self") ⟨⟨_, _, _, _, _, _, _, _, _, _, _, _, _, (rfl : (Mine.hd.heap_39 w.params).lookup m_Wheel_init = _), by kernel_rfl, us1 fun _ => rfl⟩, by kernel_rfl⟩ ?_
  with_reducible refine WSs.cons ?_
  with_reducible refine WS.setAttr (by with_unfolding_all (first | exact fun _ _ => rfl | exact fun _ _ _ => rfl)) ?_
  with_reducible refine WE.int ?_
  with_reducible refine WE.localA (by kernel_rfl) (by kernel_rfl) (by walk_at "lk") ?_
  refine WSet.inst' (fs' := [("past", .int 0)]) Hp.self (by kernel_rfl) (by kernel_rfl) (by simp) ?_
  with_reducible refine WSs.cons ?_
  with_reducible refine WS.setAttr (by with_unfolding_all (first | exact fun _ _ => rfl | exact fun _ _ _ => rfl)) ?_
  refine WE.sdict t fun d hd => ?_
  with_reducible refine WE.localA (by kernel_rfl) (by kernel_rfl) (by walk_at "lk") ?_
  have hne : b ≠ d := fun q => by
    have := hd b _ Hp.self
    walk_at "om"
  refine WSet.inst' (fs' := [("past", .int 0), ("sharers", .ref d)]) (Hp.ne hne Hp.self) (by kernel_rfl) (by kernel_rfl) (by simp) ?_
  with_reducible refine WSs.nil ?_
  refine ⟨rfl, ?_⟩
  rw [Hp.put_put] at hd
  have hdn : σ d = Option.none := by
    cases e : σ d with
    | none => rfl
    | some p =>
      have q : (σ.put b t (.inst a_Wheel [("past", .int 0)])) d = some p := Hp.new hbn e
      have q' := hd.none
      rw [q] at q'
      exact nomatch q'
  refine h b d _ hbn hdn ⟨Hp.self, Hp.ne (Ne.symm hne) Hp.self, (fun x hx => nomatch hx), List.nodup_nil, List.nodup_nil⟩ fun a p e => ?_
  have e1 : (σ.put b t (.inst a_Wheel [("past", .int 0)])) a = some p := Hp.new hbn e
  have e2 : a ≠ b := fun q => by rw [q, hbn] at e; exact nomatch e
  exact Hp.ne e2 (by rw [Hp.put_put]; exact Hp.new hd.none e1)
theorem Extd.put {σ σ' : Hp} {b t : Nat} {o : MO} (h : Extd σ σ') (hb : σ b = Option.none) : Extd σ (σ'.put b t o) := fun a p e => Hp.ne (fun q => by rw [q, hb] at e; exact nomatch e) (h a p e)
theorem Extd.new {σ σ' : Hp} {b t : Nat} {o : MO} (h : Extd σ σ') (hb : σ' b = Option.none) : Extd σ (σ'.put b t o) := fun a p e => Hp.new hb (h a p e)
theorem copied_c (t' : Nat) {W d t : Nat} {past : Int} {l : List Shr} (h : WheelD σ W d t past l) (hz : l.length ≤ 1000000)
    (hq : ∀ W' d' l' σ', σ W' = Option.none → WheelD σ' W' d' t' past l' → l'.map core = l.map core → Extd σ σ' → Q (.ref W') σ') : WFn (cx w mean mg mb) ⟨n + 3, true, sc⟩ m_Wheel_copied [.ref W] ρ Q X σ := by
  have hW : σ W = some (t, .inst a_Wheel [("past", .int past), ("sharers", .ref d)]) := h.whl
  have hd := h.dic
  refine WFn.fn1 (p1 := "self") ⟨⟨_, _, _, _, _, _, _, _, _, _, _, _, _, (rfl : (Mine.hd.heap_39 w.params).lookup m_Wheel_copied = _), by kernel_rfl, us1 fun _ => rfl⟩, by kernel_rfl⟩ ?_
  with_reducible refine WSs.cons ?_
  with_reducible refine WS.assign (by with_unfolding_all (first | exact fun _ _ => rfl | exact fun _ _ _ => rfl)) ?_
  with_reducible refine WE.call rfl rfl ?_
  with_reducible refine WE.globalA (by kernel_rfl) g_Wheel ?_
  with_reducible refine And.intro (Callee.cls mi_Wheel) ?_
  with_reducible refine WEs.nil ?_
  refine WCall.of_fn (make_wheelF t' fun W' d' σ1 n1 n2 hw1 e1 => ?_)
  have hW1 := e1 _ _ hW
  have hV1 : σ1 W' = some (t', .inst a_Wheel [("past", .int 0), ("sharers", .ref d')]) := hw1.whl
  with_reducible refine WSt.localA (by kernel_rfl) ?_
  with_reducible refine WSs.cons ?_
  with_reducible refine WS.setAttr (by with_unfolding_all (first | exact fun _ _ => rfl | exact fun _ _ _ => rfl)) ?_
  with_reducible refine WE.attr (by with_unfolding_all (first | exact fun _ _ => rfl | exact fun _ _ _ => rfl)) ?_
  with_reducible refine WE.localA (by kernel_rfl) (by kernel_rfl) (by walk_at "lk") ?_
  with_reducible refine WGet.inst (by walk_at "hp") (by kernel_rfl) (by repeat (first | (with_reducible exact lk_head) | (with_reducible refine lk_tail (by kernel_rfl) ?_))) (by with_unfolding_all rfl) ?_
  with_reducible refine WE.localA (by kernel_rfl) (by kernel_rfl) (by walk_at "lk") ?_
  refine WSet.inst' (fs' := [("past", .int past), ("sharers", .ref d')]) hV1 (by kernel_rfl) (by kernel_rfl) (by simp) ?_
  have hw2 := hw1.past (past' := past)
  have e2 : Extd σ (σ1.put W' t' (wObj past d')) := e1.put n1
  change WSs _ _ _ _ _ _ (σ1.put W' t' (wObj past d'))
  generalize σ1.put W' t' (wObj past d') = σ2 at hw2 e2 ⊢
  have hW2 := e2 _ _ hW
  have hd2 := e2 _ _ hd
  with_reducible refine WSs.cons ?_
  with_reducible refine WS.for rfl (by with_unfolding_all (first | exact fun _ _ => rfl | exact fun _ _ _ => rfl)) ?_
  with_reducible refine WE.call rfl rfl ?_
  with_reducible refine WE.globalA (by kernel_rfl) g_list ?_
  with_reducible refine And.intro (Callee.con rfl) ?_
  with_reducible refine WEs.cons rfl ?_
  with_reducible refine WE.attr (by with_unfolding_all (first | exact fun _ _ => rfl | exact fun _ _ _ => rfl)) ?_
  with_reducible refine WE.localA (by kernel_rfl) (by kernel_rfl) (by walk_at "lk") ?_
  with_reducible refine WGet.inst (by walk_at "hp") (by kernel_rfl) (by repeat (first | (with_reducible exact lk_head) | (with_reducible refine lk_tail (by kernel_rfl) ?_))) (by with_unfolding_all rfl) ?_
  with_reducible refine WEs.nil ?_
  refine WCall.listKeys (t' + 1) rfl hd2 (by simpa [ents] using hz) fun b hb => ?_
  refine ⟨_, _, Iterable.list (ListAt.own Hp.self), ?_⟩
  refine WFor.byIdxO (fun j ρ' σ' => (∃ l', WheelD σ' W' d' t' past l' ∧ l'.map core = (l.take j).map core) ∧ Extd σ σ' ∧ σ' b = some (t' + 1, .list ((ents l).map fun p => .str p.1)) ∧ ρ' "self" = some (.ref W) ∧ ρ' "found" = some (.ref W')) ?_ ?_ ?_
  · exact ⟨⟨[], hw2.keep (Kpt.new hb.none), rfl⟩, e2.new hb.none, Hp.self, by walk_at "lk", by walk_at "lk"⟩
  · rintro j v ρ' σ' hv ⟨⟨l', hw, hc⟩, e, hb', r0, r1⟩
    have hx : ∃ x, l[j]? = some x ∧ v = .str x.name := by
      simp only [ents, List.map_map, List.getElem?_map] at hv
      cases q : l[j]? with
      | none => rw [q] at hv; exact nomatch hv
      | some x => rw [q] at hv; exact ⟨x, rfl, (Option.some.inj hv).symm⟩
    obtain ⟨x, hx, rfl⟩ := hx
    have hxo : σ' x.a = some (t, .inst a_Sharer [("share", .int x.share), ("clock", .int x.clock), ("ready", .bool x.ready)]) := e _ _ (h.shr x (List.mem_of_getElem? hx))
    have hg : getK (ents l) x.name = some (.ref x.a) := getK_ents h.nn hx
    have hW3 := e _ _ hW
    have hd3 := e _ _ hd
    have hV3 : σ' W' = some (t', .inst a_Wheel [("past", .int past), ("sharers", .ref d')]) := hw.whl
    have hD3 := hw.dic
    have hlt : j < l.length := (List.getElem?_eq_some_iff.mp hx).1
    have hl' : l'.length ≤ j := by have := congrArg List.length hc; rw [List.length_map, List.length_map] at this; rw [this]; exact List.length_take_le ..
    have hn : x.name ∉ l'.map (·.name) := by
      rw [core_name hc]
      intro q
      obtain ⟨y, hy, e'⟩ := List.mem_map.mp q
      obtain ⟨i, hi⟩ := List.mem_iff_getElem?.mp hy
      have hij : i < j := by
        have := (List.getElem?_eq_some_iff.mp hi).1
        exact Nat.lt_of_lt_of_le this (List.length_take_le ..)
      rw [List.getElem?_take, if_pos hij] at hi
      exact Nat.ne_of_lt hij (nodup_at h.nn hi hx e')
    refine ⟨ListAt.own hb', ?_⟩
    intro KL hKL
    with_reducible refine WSt.localA (by kernel_rfl) ?_
    with_reducible refine WSs.cons ?_
    with_reducible refine WS.assign (by with_unfolding_all (first | exact fun _ _ => rfl | exact fun _ _ _ => rfl)) ?_
    with_reducible refine WE.sub ?_
    with_reducible refine WE.attr (by with_unfolding_all (first | exact fun _ _ => rfl | exact fun _ _ _ => rfl)) ?_
    with_reducible refine WE.localA (by kernel_rfl) (by kernel_rfl) (by walk_at "lk") ?_
    with_reducible refine WGet.inst (by walk_at "hp") (by kernel_rfl) (by repeat (first | (with_reducible exact lk_head) | (with_reducible refine lk_tail (by kernel_rfl) ?_))) (by with_unfolding_all rfl) ?_
    with_reducible refine WE.localA (by kernel_rfl) (by kernel_rfl) (by walk_at "lk") ?_
    with_reducible refine WSub.sdict (by with_unfolding_all (first | exact fun _ _ => rfl | exact fun _ _ _ => rfl)) (by walk_at "hp") (by with_reducible assumption) ?_
    with_reducible refine WSt.localA (by kernel_rfl) ?_
    with_reducible refine WSs.cons ?_
    with_reducible refine WS.setItem (by with_unfolding_all (first | exact fun _ _ => rfl | exact fun _ _ _ => rfl)) ?_
    with_reducible refine WE.call rfl rfl ?_
    with_reducible refine WE.globalA (by kernel_rfl) g_Sharer ?_
    with_reducible refine And.intro (Callee.cls mi_Sharer) ?_
    with_reducible refine WEs.cons rfl ?_
    with_reducible refine WE.attr (by with_unfolding_all (first | exact fun _ _ => rfl | exact fun _ _ _ => rfl)) ?_
    with_reducible refine WE.localA (by kernel_rfl) (by kernel_rfl) (by walk_at "lk") ?_
    with_reducible refine WGet.inst (by walk_at "hp") (by kernel_rfl) (by repeat (first | (with_reducible exact lk_head) | (with_reducible refine lk_tail (by kernel_rfl) ?_))) (by with_unfolding_all rfl) ?_
    with_reducible refine WEs.cons rfl ?_
    with_reducible refine WE.attr (by with_unfolding_all (first | exact fun _ _ => rfl | exact fun _ _ _ => rfl)) ?_
    with_reducible refine WE.localA (by kernel_rfl) (by kernel_rfl) (by walk_at "lk") ?_
    with_reducible refine WGet.inst (by walk_at "hp") (by kernel_rfl) (by repeat (first | (with_reducible exact lk_head) | (with_reducible refine lk_tail (by kernel_rfl) ?_))) (by with_unfolding_all rfl) ?_
    with_reducible refine WEs.cons rfl ?_
    with_reducible refine WE.attr (by with_unfolding_all (first | exact fun _ _ => rfl | exact fun _ _ _ => rfl)) ?_
    with_reducible refine WE.localA (by kernel_rfl) (by kernel_rfl) (by walk_at "lk") ?_
    with_reducible refine WGet.inst (by walk_at "hp") (by kernel_rfl) (by repeat (first | (with_reducible exact lk_head) | (with_reducible refine lk_tail (by kernel_rfl) ?_))) (by with_unfolding_all rfl) ?_
    with_reducible refine WEs.nil ?_
    refine WCall.of_fn (make_sharer t' fun a ha => ?_)
    with_reducible refine WE.attr (by with_unfolding_all (first | exact fun _ _ => rfl | exact fun _ _ _ => rfl)) ?_
    with_reducible refine WE.localA (by kernel_rfl) (by kernel_rfl) (by walk_at "lk") ?_
    with_reducible refine WGet.inst (by walk_at "hp") (by kernel_rfl) (by repeat (first | (with_reducible exact lk_head) | (with_reducible refine lk_tail (by kernel_rfl) ?_))) (by with_unfolding_all rfl) ?_
    with_reducible refine WE.localA (by kernel_rfl) (by kernel_rfl) (by walk_at "lk") ?_
    refine WPut.sdict (by walk_at "hp") (by simp [ents]; walk_at "om") ?_
    with_reducible refine WSs.nil ?_
    rw [putK_out hn]
    have hw' := WheelD.enter hw (y := { x with a := a }) ha.none hn
    have ee : ents (l' ++ [{ x with a := a }]) = ents l' ++ [(x.name, .ref a)] := by simp [ents]
    rw [ee] at hw'
    exact hKL _ _ ⟨⟨_, hw', by rw [List.map_append, hc, List.take_add_one, hx, List.map_append]; rfl⟩, (e.new ha.none).put n2, Hp.tag (Hp.new ha.none hD3) (by walk_at "om") (Hp.new ha.none hb'), by walk_at "lk", by walk_at "lk"⟩
  · rintro ρ' σ' ⟨⟨l', hw, hc⟩, e, hb', r0, r1⟩
    refine ⟨ListAt.own hb', ?_⟩
    with_reducible refine WSs.cons ?_
    with_reducible refine WS.ret ?_
    with_reducible refine WE.localA (by kernel_rfl) (by kernel_rfl) (by walk_at "lk") ?_
    exact hq W' d' l' σ' n1 hw (by rw [hc, List.take_of_length_le (by simp [ents])]) e
structure Team where
  name : Str
  W : Nat
  d : Nat
  g : Nat
  past : Int
  l : List Shr
def tents (tm : List Team) : List (Str × MV) := tm.map fun t => (t.name, .ref t.W)
def aents (ab : List (Str × Str)) : List (Str × MV) := ab.map fun p => (p.1, .str p.2)
theorem getK_mem {es : List (Str × MV)} {k : Str} {v : MV} (nd : (es.map (·.1)).Nodup) (h : (k, v) ∈ es) : getK es k = some v := by
  induction es with
  | nil => exact nomatch h
  | cons p es ih =>
    rw [List.map_cons, List.nodup_cons] at nd
    unfold getK
    rw [List.find?_cons]
    rcases List.mem_cons.mp h with q | q
    · subst q; simp
    · have hne : p.1 ≠ k := fun e => nd.1 (by rw [e]; exact List.mem_map.mpr ⟨_, q, rfl⟩)
      rw [decide_eq_false hne]
      exact ih nd.2 q
theorem getK_no {es : List (Str × MV)} {k : Str} (h : k ∉ es.map (·.1)) : getK es k = Option.none := by
  unfold getK
  rw [List.find?_eq_none.mpr]
  · rfl
  · intro p hp
    simp only [decide_eq_true_eq]
    exact fun q => h (List.mem_map.mpr ⟨p, hp, q⟩)
theorem putK_no {es : List (Str × MV)} {k : Str} {v : MV} (h : k ∉ es.map (·.1)) : putK es k v = es ++ [(k, v)] := by
  unfold putK
  rw [if_neg]
  simp only [Bool.not_eq_true, List.any_eq_false, decide_eq_true_eq]
  exact fun p hp q => h (List.mem_map.mpr ⟨p, hp, q⟩)
structure HouseD (σ : Hp) (H dw da : Nat) (tm : List Team) (ab : List (Str × Str)) : Prop where
  hou : σ H = some (1, .inst a_House [("wheels", .ref dw), ("above", .ref da)])
  dws : σ dw = some (1, .sdict (tents tm))
  das : σ da = some (1, .sdict (aents ab))
  whl : ∀ t ∈ tm, WheelD σ t.W t.d t.g t.past t.l
  tn : (tm.map (·.name)).Nodup
  tg : (tm.map (·.g)).Nodup
  gg : ∀ t ∈ tm, 100 ≤ t.g
  an : (ab.map (·.1)).Nodup
  dd : dw ≠ da
/-- what a house's deed may change: its own things and the wheels -/
def KpH (σ σ' : Hp) : Prop := ∀ a t o, σ a = some (t, o) → t ≠ 1 → t < 100 → σ' a = some (t, o)
theorem HouseD.keep {σ σ' : Hp} {H dw da : Nat} {tm : List Team} {ab : List (Str × Str)} (h : HouseD σ H dw da tm ab) (k1 : ∀ {a o}, σ a = some (1, o) → σ' a = some (1, o)) (k : ∀ {a t o}, σ a = some (t, o) → 100 ≤ t → σ' a = some (t, o)) : HouseD σ' H dw da tm ab :=
  ⟨k1 h.hou, k1 h.dws, k1 h.das, fun t ht => (h.whl t ht).keep ⟨fun a o e => k e (h.gg t ht)⟩, h.tn, h.tg, h.gg, h.an, h.dd⟩
theorem tents_names (tm : List Team) : (tents tm).map (·.1) = tm.map (·.name) := by unfold tents; rw [List.map_map]; rfl
theorem aents_names (ab : List (Str × Str)) : (aents ab).map (·.1) = ab.map (·.1) := by unfold aents; rw [List.map_map]; rfl
theorem getK_team {σ : Hp} {H dw da : Nat} {tm : List Team} {ab : List (Str × Str)} (h : HouseD σ H dw da tm ab) {t : Team} (ht : t ∈ tm) : getK (tents tm) t.name = some (.ref t.W) :=
  getK_mem (by rw [tents_names]; exact h.tn) (List.mem_map.mpr ⟨t, ht, rfl⟩)
theorem getK_noteam {tm : List Team} {nm : Str} (h : nm ∉ tm.map (·.name)) : getK (tents tm) nm = Option.none := getK_no (by rw [tents_names]; exact h)
theorem getK_above {σ : Hp} {H dw da : Nat} {tm : List Team} {ab : List (Str × Str)} (h : HouseD σ H dw da tm ab) {nm up : Str} (ht : (nm, up) ∈ ab) : getK (aents ab) nm = some (.str up) :=
  getK_mem (by rw [aents_names]; exact h.an) (List.mem_map.mpr ⟨_, ht, rfl⟩)
theorem getK_noabove {ab : List (Str × Str)} {nm : Str} (h : nm ∉ ab.map (·.1)) : getK (aents ab) nm = Option.none := getK_no (by rw [aents_names]; exact h)
/-- one wheel has changed -/
theorem HouseD.one {σ σ' : Hp} {H dw da k : Nat} {tm : List Team} {ab : List (Str × Str)} {t t' : Team} (h : HouseD σ H dw da tm ab) (hk : tm[k]? = some t) (hn : t'.name = t.name) (hW : t'.W = t.W) (hg : t'.g = t.g) (hw : WheelD σ' t'.W t'.d t'.g t'.past t'.l) (o : Oth t.g σ σ') : HouseD σ' H dw da (tm.set k t') ab := by
  have g1 : 1 ≠ t.g := by have := h.gg t (List.mem_of_getElem? hk); walk_at "om"
  refine ⟨o.at h.hou g1, ?_, o.at h.das g1, fun u hu => ?_, ?_, ?_, fun u hu => ?_, h.an, h.dd⟩
  · have : tents (tm.set k t') = tents tm := map_set_same _ hk (by rw [hn, hW])
    rw [this]; exact o.at h.dws g1
  · rcases mem_set_or hu with rfl | ⟨j, hj, hju⟩
    · exact hw
    · refine (h.whl u (List.mem_of_getElem? hju)).keep (o.kpt fun q => hj ?_)
      exact nodup_at h.tg hju hk q
  · rw [map_set_same (·.name) hk hn]; exact h.tn
  · rw [map_set_same (·.g) hk hg]; exact h.tg
  · rcases mem_set_or hu with rfl | ⟨j, _, hju⟩
    · rw [hg]; exact h.gg t (List.mem_of_getElem? hk)
    · exact h.gg u (List.mem_of_getElem? hju)
theorem hneed_c {H dw da : Nat} {tm : List Team} {ab : List (Str × Str)} {nm up : Str} (h : HouseD σ H dw da tm ab) (hm : (nm, up) ∈ ab) (hq : Q (.str up) σ) : WFn (cx w mean mg mb) ⟨n + 1, true, sc⟩ m_House_need [.ref H, .str nm] ρ Q X σ := by
  have hH := h.hou
  have hd := h.das
  have hg := getK_above h hm
  refine WFn.fn2 (p1 := "self") (p2 := "name") ⟨⟨_, _, _, _, _, _, _, _, _, _, _, _, _, (rfl : (Mine.hd.heap_39 w.params).lookup m_House_need = _), by kernel_rfl, us2 fun _ _ => rfl⟩, by kernel_rfl⟩ ?_
  with_reducible refine WSs.cons ?_
  with_reducible refine WS.ite ?_
  with_reducible refine WT.bool ?_
  with_reducible refine WA.or ?_
  with_reducible refine WT.not ?_
  with_reducible refine WT.plain (by with_unfolding_all (first | exact fun _ _ => rfl | exact fun _ _ _ => rfl)) ?_
  with_reducible refine WE.call rfl rfl ?_
  with_reducible refine WE.globalA (by kernel_rfl) g_isinstance ?_
  with_reducible refine And.intro (Callee.con rfl) ?_
  with_reducible refine WEs.cons rfl ?_
  with_reducible refine WE.localA (by kernel_rfl) (by kernel_rfl) (by walk_at "lk") ?_
  with_reducible refine WEs.cons rfl ?_
  with_reducible refine WE.globalA (by kernel_rfl) g_str ?_
  with_reducible refine WEs.nil ?_
  with_reducible refine WCall.isinstance (by first | with_reducible assumption | (with_reducible exact KindOf.int) | (with_reducible exact KindOf.str) | (with_reducible exact KindOf.bool) | (with_reducible exact KindOf.none) | ((with_reducible apply KindOf.list); walk_at "hp") | ((with_reducible apply KindOf.tuple); walk_at "hp")) k_str_str ?_
  with_reducible refine WTr.bool ?_
  with_reducible refine if_nt ?_
  with_reducible refine WA.or ?_
  with_reducible refine WT.cmp1 rfl ?_
  with_reducible refine WE.localA (by kernel_rfl) (by kernel_rfl) (by walk_at "lk") ?_
  with_reducible refine WE.attr (by with_unfolding_all (first | exact fun _ _ => rfl | exact fun _ _ _ => rfl)) ?_
  with_reducible refine WE.localA (by kernel_rfl) (by kernel_rfl) (by walk_at "lk") ?_
  with_reducible refine WGet.inst (by walk_at "hp") (by kernel_rfl) (by repeat (first | (with_reducible exact lk_head) | (with_reducible refine lk_tail (by kernel_rfl) ?_))) (by with_unfolding_all rfl) ?_
  with_reducible refine WC.notInS_t (by walk_at "hp") (by with_reducible assumption) ?_
  with_reducible refine WTr.bool ?_
  with_reducible refine if_ff ?_
  with_reducible refine WA.or_nil ?_
  with_reducible refine if_ff ?_
  with_reducible refine WSs.nil ?_
  with_reducible refine WSs.cons ?_
  with_reducible refine WS.ret ?_
  with_reducible refine WE.sub ?_
  with_reducible refine WE.attr (by with_unfolding_all (first | exact fun _ _ => rfl | exact fun _ _ _ => rfl)) ?_
  with_reducible refine WE.localA (by kernel_rfl) (by kernel_rfl) (by walk_at "lk") ?_
  with_reducible refine WGet.inst (by walk_at "hp") (by kernel_rfl) (by repeat (first | (with_reducible exact lk_head) | (with_reducible refine lk_tail (by kernel_rfl) ?_))) (by with_unfolding_all rfl) ?_
  with_reducible refine WE.localA (by kernel_rfl) (by kernel_rfl) (by walk_at "lk") ?_
  with_reducible refine WSub.sdict (by with_unfolding_all (first | exact fun _ _ => rfl | exact fun _ _ _ => rfl)) (by walk_at "hp") (by with_reducible assumption) ?_
  exact hq
theorem is_team_yes {H dw da : Nat} {tm : List Team} {ab : List (Str × Str)} {t : Team} (h : HouseD σ H dw da tm ab) (ht : t ∈ tm) (hq : Q (.bool true) σ) : WFn (cx w mean mg mb) ⟨n + 1, true, sc⟩ m_House_is_team [.ref H, .str t.name] ρ Q X σ := by
  have hH := h.hou
  have hd := h.dws
  have hg := getK_team h ht
  refine WFn.fn2 (p1 := "self") (p2 := "team") ⟨⟨_, _, _, _, _, _, _, _, _, _, _, _, _, (rfl : (Mine.hd.heap_39 w.params).lookup m_House_is_team = _), by kernel_rfl, us2 fun _ _ => rfl⟩, by kernel_rfl⟩ ?_
  with_reducible refine WSs.cons ?_
  with_reducible refine WS.ret ?_
  with_reducible refine WE.and ?_
  with_reducible refine WE.call rfl rfl ?_
  with_reducible refine WE.globalA (by kernel_rfl) g_isinstance ?_
  with_reducible refine And.intro (Callee.con rfl) ?_
  with_reducible refine WEs.cons rfl ?_
  with_reducible refine WE.localA (by kernel_rfl) (by kernel_rfl) (by walk_at "lk") ?_
  with_reducible refine WEs.cons rfl ?_
  with_reducible refine WE.globalA (by kernel_rfl) g_str ?_
  with_reducible refine WEs.nil ?_
  with_reducible refine WCall.isinstance (by first | with_reducible assumption | (with_reducible exact KindOf.int) | (with_reducible exact KindOf.str) | (with_reducible exact KindOf.bool) | (with_reducible exact KindOf.none) | ((with_reducible apply KindOf.list); walk_at "hp") | ((with_reducible apply KindOf.tuple); walk_at "hp")) k_str_str ?_
  with_reducible refine WTr.bool ?_
  with_reducible refine if_tt ?_
  with_reducible refine WE.and1 ?_
  with_reducible refine WE.cmp1 rfl ?_
  with_reducible refine WE.localA (by kernel_rfl) (by kernel_rfl) (by walk_at "lk") ?_
  with_reducible refine WE.attr (by with_unfolding_all (first | exact fun _ _ => rfl | exact fun _ _ _ => rfl)) ?_
  with_reducible refine WE.localA (by kernel_rfl) (by kernel_rfl) (by walk_at "lk") ?_
  with_reducible refine WGet.inst (by walk_at "hp") (by kernel_rfl) (by repeat (first | (with_reducible exact lk_head) | (with_reducible refine lk_tail (by kernel_rfl) ?_))) (by with_unfolding_all rfl) ?_
  with_reducible refine WC.inS_t (by walk_at "hp") (by with_reducible assumption) ?_
  exact hq
theorem need_hand_c {H dw da : Nat} {tm : List Team} {ab : List (Str × Str)} {nm up : Str} (h : HouseD σ H dw da tm ab) (hm : (nm, up) ∈ ab) (hn : nm ∉ tm.map (·.name)) (hq : Q (.str up) σ) : WFn (cx w mean mg mb) ⟨n + 2, true, sc⟩ m_House_need_hand [.ref H, .str nm] ρ Q X σ := by
  have hH := h.hou
  have hd := h.dws
  have hg := getK_noteam hn
  refine WFn.fn2 (p1 := "self") (p2 := "name") ⟨⟨_, _, _, _, _, _, _, _, _, _, _, _, _, (rfl : (Mine.hd.heap_39 w.params).lookup m_House_need_hand = _), by kernel_rfl, us2 fun _ _ => rfl⟩, by kernel_rfl⟩ ?_
  with_reducible refine WSs.cons ?_
  with_reducible refine WS.assign (by with_unfolding_all (first | exact fun _ _ => rfl | exact fun _ _ _ => rfl)) ?_
  with_reducible refine WE.method (by with_unfolding_all (first | exact fun _ _ => rfl | exact fun _ _ _ => rfl)) rfl rfl rfl ?_
  with_reducible refine WE.localA (by kernel_rfl) (by kernel_rfl) (by walk_at "lk") ?_
  with_reducible refine WM.inst (by walk_at "hp") ms_House_need (by kernel_rfl) ?_
  with_reducible refine And.intro (Callee.meth ms_House_need) ?_
  with_reducible refine WEs.cons rfl ?_
  with_reducible refine WE.localA (by kernel_rfl) (by kernel_rfl) (by walk_at "lk") ?_
  with_reducible refine WEs.nil ?_
  refine WCall.of_fn (hneed_c h hm ?_)
  with_reducible refine WSt.localA (by kernel_rfl) ?_
  with_reducible refine WSs.cons ?_
  with_reducible refine WS.ite ?_
  with_reducible refine WT.cmp1 rfl ?_
  with_reducible refine WE.localA (by kernel_rfl) (by kernel_rfl) (by walk_at "lk") ?_
  with_reducible refine WE.attr (by with_unfolding_all (first | exact fun _ _ => rfl | exact fun _ _ _ => rfl)) ?_
  with_reducible refine WE.localA (by kernel_rfl) (by kernel_rfl) (by walk_at "lk") ?_
  with_reducible refine WGet.inst (by walk_at "hp") (by kernel_rfl) (by repeat (first | (with_reducible exact lk_head) | (with_reducible refine lk_tail (by kernel_rfl) ?_))) (by with_unfolding_all rfl) ?_
  with_reducible refine WC.inS_f (by walk_at "hp") (by with_reducible assumption) ?_
  with_reducible refine WTr.bool ?_
  with_reducible refine if_ff ?_
  with_reducible refine WSs.nil ?_
  with_reducible refine WSs.cons ?_
  with_reducible refine WS.ret ?_
  with_reducible refine WE.localA (by kernel_rfl) (by kernel_rfl) (by walk_at "lk") ?_
  exact hq
def LETTERS : Str := "abcdefghijklmnopqrstuvwxyz"
def inL (n : Nat) : Bool := !(Builtin.Str.occurrences LETTERS ⟨#[n]⟩ 0 LETTERS.length 1).isEmpty
def goodN (x : Str) : Bool := decide (1 ≤ (x.length : Int)) && decide ((x.length : Int) ≤ 8) && (x.cps.toList.map inL).all id
theorem is_name_c {x : Str} (hz : x.length ≤ 1000) (ha : x.cps.all (· < 128) = true) (hq : ∀ σ', Extd σ σ' → Q (.bool (goodN x)) σ') : WFn (cx w mean mg mb) ⟨n + 1, true, sc⟩ a_is_name [.str x] ρ Q X σ := by
  refine WFn.fn1 (p1 := "thing") ⟨⟨_, _, _, _, _, _, _, _, _, _, _, _, _, (rfl : (Mine.hd.heap_39 w.params).lookup a_is_name = _), by kernel_rfl, us1 fun _ => rfl⟩, by kernel_rfl⟩ ?_
  with_reducible refine WSs.cons ?_
  with_reducible refine WS.ite ?_
  with_reducible refine WT.bool ?_
  with_reducible refine WA.or ?_
  with_reducible refine WT.not ?_
  with_reducible refine WT.plain (by with_unfolding_all (first | exact fun _ _ => rfl | exact fun _ _ _ => rfl)) ?_
  with_reducible refine WE.call rfl rfl ?_
  with_reducible refine WE.globalA (by kernel_rfl) g_isinstance ?_
  with_reducible refine And.intro (Callee.con rfl) ?_
  with_reducible refine WEs.cons rfl ?_
  with_reducible refine WE.localA (by kernel_rfl) (by kernel_rfl) (by walk_at "lk") ?_
  with_reducible refine WEs.cons rfl ?_
  with_reducible refine WE.globalA (by kernel_rfl) g_str ?_
  with_reducible refine WEs.nil ?_
  with_reducible refine WCall.isinstance (by first | with_reducible assumption | (with_reducible exact KindOf.int) | (with_reducible exact KindOf.str) | (with_reducible exact KindOf.bool) | (with_reducible exact KindOf.none) | ((with_reducible apply KindOf.list); walk_at "hp") | ((with_reducible apply KindOf.tuple); walk_at "hp")) k_str_str ?_
  with_reducible refine WTr.bool ?_
  with_reducible refine if_nt ?_
  with_reducible refine WA.or ?_
  with_reducible refine WT.not ?_
  with_reducible refine WT.cmp2 rfl ?_
  with_reducible refine WE.int ?_
  with_reducible refine WE.call rfl rfl ?_
  with_reducible refine WE.globalA (by kernel_rfl) g_len ?_
  with_reducible refine And.intro (Callee.con rfl) ?_
  with_reducible refine WEs.cons rfl ?_
  with_reducible refine WE.localA (by kernel_rfl) (by kernel_rfl) (by walk_at "lk") ?_
  with_reducible refine WEs.nil ?_
  refine WCall.lenStr (Nat.le_trans hz (by decide)) ?_
  unfold goodN at hq
  by_cases h1 : 1 ≤ (x.length : Int)
  · rw [decide_eq_true h1, Bool.true_and] at hq
    by_cases h8 : (x.length : Int) ≤ 8
    · rw [decide_eq_true h8, Bool.true_and] at hq
      with_reducible refine WC.le ?_
      with_reducible refine WTr.bool ?_
      with_reducible refine if_dt (by with_reducible assumption) ?_
      with_reducible refine WE.globalA (by kernel_rfl) g_MOST_LETTERS ?_
      with_reducible refine WC.le ?_
      with_reducible refine WTr.bool ?_
      rw [decide_eq_true h8]
      with_reducible refine if_nt ?_
      with_reducible refine WA.or_nil ?_
      with_reducible refine if_ff ?_
      with_reducible refine WSs.nil ?_
      with_reducible refine WSs.cons ?_
      with_reducible refine WS.ret ?_
      with_reducible refine WE.call rfl rfl ?_
      with_reducible refine WE.globalA (by kernel_rfl) g_all ?_
      with_reducible refine And.intro (Callee.con rfl) ?_
      with_reducible refine WEs.cons rfl ?_
      refine WE.compA 9 rfl (by with_unfolding_all (first | exact fun _ _ => rfl | exact fun _ _ _ => rfl)) (by kernel_rfl) (by ((repeat (first | assumption | (refine Lo.put_ne (by kernel_rfl) ?_))); rfl)) ?_
      with_reducible refine WE.localA (by kernel_rfl) (by kernel_rfl) (by walk_at "lk") ?_
      refine ⟨_, _, Iterable.text ha, by simp; exact Nat.le_trans hz (by decide), ?_⟩
      refine WComp.inv (fun j acc σ' => σ' = σ ∧ acc = ((x.cps.toList.take j).map inL).map .bool) _ 0 ⟨rfl, rfl⟩ ?_ ?_
      · rintro k v acc σ' hv ⟨rfl, rfl⟩
        rw [List.getElem?_map] at hv
        obtain ⟨ch, hc, rfl⟩ := Option.map_eq_some_iff.mp hv
        refine ⟨trivial, ?_⟩
        with_reducible refine WE.cmp1 rfl ?_
        with_reducible refine WE.localA (by kernel_rfl) (by kernel_rfl) (by walk_at "lk") ?_
        with_reducible refine WE.globalA (by kernel_rfl) g_LETTERS ?_
        refine WC.inText ?_
        refine ⟨rfl, ?_⟩
        rw [Nat.zero_add, List.take_add_one, hc, List.map_append, List.map_append]
        rfl
      · rintro acc σ' ⟨rfl, rfl⟩
        refine ⟨trivial, fun D hD => ?_⟩
        have el : x.cps.toList.take (0 + (x.cps.toList.map fun n => MV.str ⟨#[n]⟩).length) = x.cps.toList := by rw [Nat.zero_add, List.length_map, List.take_length]
        rw [el]
        with_reducible refine WEs.nil ?_
        refine WCall.all rfl (ListAt.own Hp.self) ?_
        exact hq _ fun a p e => Hp.new hD e
    · rw [decide_eq_false h8, Bool.false_and] at hq
      with_reducible refine WC.le ?_
      with_reducible refine WTr.bool ?_
      with_reducible refine if_dt (by with_reducible assumption) ?_
      with_reducible refine WE.globalA (by kernel_rfl) g_MOST_LETTERS ?_
      with_reducible refine WC.le ?_
      with_reducible refine WTr.bool ?_
      rw [decide_eq_false h8]
      with_reducible refine if_nf ?_
      with_reducible refine if_tt ?_
      with_reducible refine WSs.cons ?_
      with_reducible refine WS.ret ?_
      with_reducible refine WE.bool ?_
      exact hq _ fun a p e => e
  · rw [decide_eq_false h1, Bool.false_and, Bool.false_and] at hq
    with_reducible refine WC.le ?_
    with_reducible refine WTr.bool ?_
    with_reducible refine if_df (by with_reducible assumption) ?_
    with_reducible refine if_nf ?_
    with_reducible refine if_tt ?_
    with_reducible refine WSs.cons ?_
    with_reducible refine WS.ret ?_
    with_reducible refine WE.bool ?_
    exact hq _ fun a p e => e
theorem HouseD.ext {σ σ' : Hp} {H dw da : Nat} {tm : List Team} {ab : List (Str × Str)} (h : HouseD σ H dw da tm ab) (e : Extd σ σ') : HouseD σ' H dw da tm ab := h.keep (fun q => e _ _ q) (fun q _ => e _ _ q)
theorem make_house (g : Nat) (hg : 100 ≤ g) (hq : ∀ H dw da W d σ', HouseD σ' H dw da [⟨"", W, d, g, 0, []⟩] [] → Extd σ σ' → Q (.ref H) σ') : WFn (cx w mean mg mb) ⟨n + 4, true, sc⟩ a_House [] ρ Q X σ := by
  refine WFn.make 1 mi_House fun b hb hbn => ?_
  refine WFn.fn1 (p1 := "self") ⟨⟨_, _, _, _, _, _, _, _, _, _, _, _, _, (rfl : (Mine.hd.heap_39 w.params).lookup m_House_init = _), by kernel_rfl, us1 fun _ => rfl⟩, by kernel_rfl⟩ ?_
  with_reducible refine WSs.cons ?_
  with_reducible refine WS.setAttr (by with_unfolding_all (first | exact fun _ _ => rfl | exact fun _ _ _ => rfl)) ?_
  refine WE.dict1 1 fun dw hdw => ?_
  with_reducible refine WE.globalA (by kernel_rfl) g_TOP ?_
  with_reducible refine WE.call rfl rfl ?_
  with_reducible refine WE.globalA (by kernel_rfl) g_Wheel ?_
  with_reducible refine And.intro (Callee.cls mi_Wheel) ?_
  with_reducible refine WEs.nil ?_
  refine WCall.of_fn (make_wheelF g fun W d σ2 n1 n2 hw e2 => ?_)
  have hdw2 := e2 _ _ Hp.self
  have hb2 := e2 _ _ (Hp.new hdw.none Hp.self)
  refine ⟨_, rfl, hdw2, ?_⟩
  have hbd : b ≠ dw := fun q => by have := hdw.none; rw [← q, Hp.self] at this; exact nomatch this
  have e0 : Extd σ (σ2.put dw 1 (.sdict [("", .ref W)])) := fun a p q => Hp.ne (fun e => by have := hdw.none; rw [← e, Hp.new hbn q] at this; exact nomatch this) (e2 _ _ (Hp.new hdw.none (Hp.new hbn q)))
  have hw3 := hw.keep (σ' := σ2.put dw 1 (.sdict [("", .ref W)])) (Kpt.put hdw2 (by walk_at "om"))
  have hb3 : (σ2.put dw 1 (.sdict [("", .ref W)])) b = _ := Hp.ne hbd hb2
  have hd3 : (σ2.put dw 1 (.sdict [("", .ref W)])) dw = some (1, .sdict [("", .ref W)]) := Hp.self
  generalize σ2.put dw 1 (.sdict [("", .ref W)]) = σ3 at e0 hw3 hb3 hd3 ⊢
  with_reducible refine WE.localA (by kernel_rfl) (by kernel_rfl) (by walk_at "lk") ?_
  refine WSet.inst' (fs' := [("wheels", .ref dw)]) hb3 (by kernel_rfl) (by kernel_rfl) (by simp) ?_
  with_reducible refine WSs.cons ?_
  with_reducible refine WS.setAttr (by with_unfolding_all (first | exact fun _ _ => rfl | exact fun _ _ _ => rfl)) ?_
  refine WE.sdict 1 fun da hda => ?_
  have hbda : b ≠ da := fun q => by have := hda.none; rw [← q, Hp.self] at this; exact nomatch this
  have hdd : dw ≠ da := fun q => by have := hda.none; rw [← q, Hp.ne (Ne.symm hbd) hd3] at this; exact nomatch this
  with_reducible refine WE.localA (by kernel_rfl) (by kernel_rfl) (by walk_at "lk") ?_
  refine WSet.inst' (fs' := [("wheels", .ref dw), ("above", .ref da)]) (Hp.ne hbda Hp.self) (by kernel_rfl) (by kernel_rfl) (by simp) ?_
  with_reducible refine WSs.nil ?_
  refine ⟨rfl, ?_⟩
  have hg1 : g ≠ 1 := by walk_at "om"
  refine hq b dw da W d _ ⟨Hp.self, Hp.ne (Ne.symm hbd) (Hp.ne hdd (Hp.ne (Ne.symm hbd) hd3)), Hp.ne (Ne.symm hbda) Hp.self, fun t ht => ?_, by simp, by simp, fun t ht => ?_, by simp, hdd⟩ fun a p q => ?_
  · rw [List.mem_singleton.mp ht]
    exact hw3.keep ⟨fun a o q => Hp.tag (Hp.ne hbda Hp.self) hg1 (Hp.new hda.none (Hp.tag hb3 hg1 q))⟩
  · rw [List.mem_singleton.mp ht]; exact hg
  · have ne : a ≠ b := fun e => by rw [e, hbn] at q; exact nomatch q
    exact Hp.ne ne (Hp.new hda.none (Hp.ne ne (e0 _ _ q)))
theorem stand_ok {H dw da k : Nat} {tm : List Team} {ab : List (Str × Str)} {t : Team} {nm : Str} {share : Int} (h : HouseD σ H dw da tm ab) (hz : nm.length ≤ 1000) (ha : nm.cps.all (· < 128) = true) (hn : goodN nm = true) (hnew : nm ∉ ab.map (·.1)) (hk : tm[k]? = some t) (h0 : 1 ≤ share) (h1 : share ≤ 12) (hnt : nm ∉ t.l.map (·.name)) (hl : t.l.length ≤ 1000000) (hal : ab.length ≤ 1000000)
    (hq : ∀ a σ', HouseD σ' H dw da (tm.set k { t with l := t.l ++ [⟨nm, a, share, 0, false⟩] }) (ab ++ [(nm, t.name)]) → KpH σ σ' → Q .none σ') : WFn (cx w mean mg mb) ⟨n + 4, true, sc⟩ m_House_stand [.ref H, .str nm, .str t.name, .int share] ρ Q X σ := by
  refine WFn.fn4 (p1 := "self") (p2 := "name") (p3 := "above") (p4 := "share") ⟨⟨_, _, _, _, _, _, _, _, _, _, _, _, _, (rfl : (Mine.hd.heap_39 w.params).lookup m_House_stand = _), by kernel_rfl, us4 fun _ _ _ _ => rfl⟩, by kernel_rfl⟩ ?_
  with_reducible refine WSs.cons ?_
  with_reducible refine WS.ite ?_
  with_reducible refine WT.not ?_
  with_reducible refine WT.plain (by with_unfolding_all (first | exact fun _ _ => rfl | exact fun _ _ _ => rfl)) ?_
  with_reducible refine WE.call rfl rfl ?_
  with_reducible refine WE.globalA (by kernel_rfl) g_is_name ?_
  with_reducible refine And.intro (Callee.fn fn_is_name) ?_
  with_reducible refine WEs.cons rfl ?_
  with_reducible refine WE.localA (by kernel_rfl) (by kernel_rfl) (by walk_at "lk") ?_
  with_reducible refine WEs.nil ?_
  refine WCall.of_fn (is_name_c hz ha fun σ1 e1 => ?_)
  rw [hn]
  have hm := List.mem_of_getElem? hk
  have h2 := h.ext e1
  have hH := h2.hou
  have hdd := h2.das
  have hdw := h2.dws
  have hg := getK_noabove hnew
  have hgt := getK_team h2 hm
  with_reducible refine WTr.bool ?_
  with_reducible refine if_nt ?_
  with_reducible refine WSs.nil ?_
  with_reducible refine WSs.cons ?_
  with_reducible refine WS.ite ?_
  with_reducible refine WT.cmp1 rfl ?_
  with_reducible refine WE.localA (by kernel_rfl) (by kernel_rfl) (by walk_at "lk") ?_
  with_reducible refine WE.attr (by with_unfolding_all (first | exact fun _ _ => rfl | exact fun _ _ _ => rfl)) ?_
  with_reducible refine WE.localA (by kernel_rfl) (by kernel_rfl) (by walk_at "lk") ?_
  with_reducible refine WGet.inst (by walk_at "hp") (by kernel_rfl) (by repeat (first | (with_reducible exact lk_head) | (with_reducible refine lk_tail (by kernel_rfl) ?_))) (by with_unfolding_all rfl) ?_
  with_reducible refine WC.inS_f (by walk_at "hp") (by with_reducible assumption) ?_
  with_reducible refine WTr.bool ?_
  with_reducible refine if_ff ?_
  with_reducible refine WSs.nil ?_
  with_reducible refine WSs.cons ?_
  with_reducible refine WS.ite ?_
  with_reducible refine WT.not ?_
  with_reducible refine WT.plain (by with_unfolding_all (first | exact fun _ _ => rfl | exact fun _ _ _ => rfl)) ?_
  with_reducible refine WE.method (by with_unfolding_all (first | exact fun _ _ => rfl | exact fun _ _ _ => rfl)) rfl rfl rfl ?_
  with_reducible refine WE.localA (by kernel_rfl) (by kernel_rfl) (by walk_at "lk") ?_
  with_reducible refine WM.inst (by walk_at "hp") ms_House_is_team (by kernel_rfl) ?_
  with_reducible refine And.intro (Callee.meth ms_House_is_team) ?_
  with_reducible refine WEs.cons rfl ?_
  with_reducible refine WE.localA (by kernel_rfl) (by kernel_rfl) (by walk_at "lk") ?_
  with_reducible refine WEs.nil ?_
  refine WCall.of_fn (is_team_yes h2 hm ?_)
  with_reducible refine WTr.bool ?_
  with_reducible refine if_nt ?_
  with_reducible refine WSs.nil ?_
  with_reducible refine WSs.cons ?_
  with_reducible refine WS.expr (by with_unfolding_all (first | exact fun _ _ => rfl | exact fun _ _ _ => rfl)) ?_
  with_reducible refine WE.call rfl rfl ?_
  with_reducible refine WE.globalA (by kernel_rfl) g_step ?_
  with_reducible refine And.intro (Callee.fn fn_step) ?_
  with_reducible refine WEs.cons rfl ?_
  with_reducible refine WE.localA (by kernel_rfl) (by kernel_rfl) (by walk_at "lk") ?_
  with_reducible refine WEs.nil ?_
  refine WCall.of_fn (step_ok h0 h1 ?_)
  have hwt := h2.whl t hm
  have hW : σ1 t.W = some (t.g, .inst a_Wheel [("past", .int t.past), ("sharers", .ref t.d)]) := hwt.whl
  with_reducible refine WSs.cons ?_
  with_reducible refine WS.expr (by with_unfolding_all (first | exact fun _ _ => rfl | exact fun _ _ _ => rfl)) ?_
  with_reducible refine WE.method (by with_unfolding_all (first | exact fun _ _ => rfl | exact fun _ _ _ => rfl)) rfl rfl rfl ?_
  with_reducible refine WE.sub ?_
  with_reducible refine WE.attr (by with_unfolding_all (first | exact fun _ _ => rfl | exact fun _ _ _ => rfl)) ?_
  with_reducible refine WE.localA (by kernel_rfl) (by kernel_rfl) (by walk_at "lk") ?_
  with_reducible refine WGet.inst (by walk_at "hp") (by kernel_rfl) (by repeat (first | (with_reducible exact lk_head) | (with_reducible refine lk_tail (by kernel_rfl) ?_))) (by with_unfolding_all rfl) ?_
  with_reducible refine WE.localA (by kernel_rfl) (by kernel_rfl) (by walk_at "lk") ?_
  with_reducible refine WSub.sdict (by with_unfolding_all (first | exact fun _ _ => rfl | exact fun _ _ _ => rfl)) (by walk_at "hp") (by with_reducible assumption) ?_
  with_reducible refine WM.inst (by walk_at "hp") ms_Wheel_enter (by kernel_rfl) ?_
  with_reducible refine And.intro (Callee.meth ms_Wheel_enter) ?_
  with_reducible refine WEs.cons rfl ?_
  with_reducible refine WE.localA (by kernel_rfl) (by kernel_rfl) (by walk_at "lk") ?_
  with_reducible refine WEs.cons rfl ?_
  with_reducible refine WE.localA (by kernel_rfl) (by kernel_rfl) (by walk_at "lk") ?_
  with_reducible refine WEs.nil ?_
  refine WCall.of_fn (enter_c hwt hnt h0 h1 hl fun a σ3 h3 o3 => ?_)
  have hh := h2.one (t' := { t with l := t.l ++ [⟨nm, a, share, 0, false⟩] }) hk rfl rfl rfl h3 o3
  have k3 : KpH σ σ3 := fun b t' o q n1 n100 => o3.at (e1 _ _ q) (by have := h.gg t hm; walk_at "om")
  have hH3 := hh.hou
  have hda3 := hh.das
  clear hH hdd hdw hW hwt h3 o3
  with_reducible refine WSs.cons ?_
  with_reducible refine WS.setItem (by with_unfolding_all (first | exact fun _ _ => rfl | exact fun _ _ _ => rfl)) ?_
  with_reducible refine WE.localA (by kernel_rfl) (by kernel_rfl) (by walk_at "lk") ?_
  with_reducible refine WE.attr (by with_unfolding_all (first | exact fun _ _ => rfl | exact fun _ _ _ => rfl)) ?_
  with_reducible refine WE.localA (by kernel_rfl) (by kernel_rfl) (by walk_at "lk") ?_
  with_reducible refine WGet.inst (by walk_at "hp") (by kernel_rfl) (by repeat (first | (with_reducible exact lk_head) | (with_reducible refine lk_tail (by kernel_rfl) ?_))) (by with_unfolding_all rfl) ?_
  with_reducible refine WE.localA (by kernel_rfl) (by kernel_rfl) (by walk_at "lk") ?_
  refine WPut.sdict hda3 (by simpa [aents] using hal) ?_
  rw [putK_no (by rw [aents_names]; exact hnew)]
  with_reducible refine WSs.nil ?_
  have ea : aents (ab ++ [(nm, t.name)]) = aents ab ++ [(nm, .str t.name)] := by simp [aents]
  rw [← ea]
  refine hq a _ ⟨Hp.ne (fun q => ?_) hH3, Hp.ne hh.dd hh.dws, Hp.self, fun u hu => (hh.whl u hu).keep (Kpt.put hda3 (by have := hh.gg u hu; walk_at "om")), hh.tn, hh.tg, hh.gg, ?_, hh.dd⟩ fun b t' o q n1 n100 => Hp.tag hda3 n1 (k3 b t' o q n1 n100)
  · rw [q, hda3] at hH3; exact nomatch hH3
  · rw [List.map_append]
    refine List.nodup_append.mpr ⟨hh.an, by simp, fun x hx y hy q => ?_⟩
    have e2 : y = nm := by simpa using hy
    exact hnew (e2 ▸ q ▸ hx)
theorem hand_ok {H dw da k : Nat} {tm : List Team} {ab : List (Str × Str)} {t : Team} {nm : Str} {share : Int} (h : HouseD σ H dw da tm ab) (hz : nm.length ≤ 1000) (ha : nm.cps.all (· < 128) = true) (hn : goodN nm = true) (hnew : nm ∉ ab.map (·.1)) (hk : tm[k]? = some t) (h0 : 1 ≤ share) (h1 : share ≤ 12) (hnt : nm ∉ t.l.map (·.name)) (hl : t.l.length ≤ 1000000) (hal : ab.length ≤ 1000000)
    (hq : ∀ a σ', HouseD σ' H dw da (tm.set k { t with l := t.l ++ [⟨nm, a, share, 0, false⟩] }) (ab ++ [(nm, t.name)]) → KpH σ σ' → Q .none σ') : WFn (cx w mean mg mb) ⟨n + 5, true, sc⟩ m_House_hand [.ref H, .str nm, .str t.name, .int share] ρ Q X σ := by
  have hH := h.hou
  refine WFn.fn4 (p1 := "self") (p2 := "name") (p3 := "above") (p4 := "share") ⟨⟨_, _, _, _, _, _, _, _, _, _, _, _, _, (rfl : (Mine.hd.heap_39 w.params).lookup m_House_hand = _), by kernel_rfl, us4 fun _ _ _ _ => rfl⟩, by kernel_rfl⟩ ?_
  with_reducible refine WSs.cons ?_
  with_reducible refine WS.expr (by with_unfolding_all (first | exact fun _ _ => rfl | exact fun _ _ _ => rfl)) ?_
  with_reducible refine WE.method (by with_unfolding_all (first | exact fun _ _ => rfl | exact fun _ _ _ => rfl)) rfl rfl rfl ?_
  with_reducible refine WE.localA (by kernel_rfl) (by kernel_rfl) (by walk_at "lk") ?_
  with_reducible refine WM.inst (by walk_at "hp") ms_House_stand (by kernel_rfl) ?_
  with_reducible refine And.intro (Callee.meth ms_House_stand) ?_
  with_reducible refine WEs.cons rfl ?_
  with_reducible refine WE.localA (by kernel_rfl) (by kernel_rfl) (by walk_at "lk") ?_
  with_reducible refine WEs.cons rfl ?_
  with_reducible refine WE.localA (by kernel_rfl) (by kernel_rfl) (by walk_at "lk") ?_
  with_reducible refine WEs.cons rfl ?_
  with_reducible refine WE.localA (by kernel_rfl) (by kernel_rfl) (by walk_at "lk") ?_
  with_reducible refine WEs.nil ?_
  refine WCall.of_fn (stand_ok h hz ha hn hnew hk h0 h1 hnt hl hal fun a σ' h' k' => ?_)
  with_reducible refine WSs.nil ?_
  exact hq a σ' h' k'
theorem team_ok (g : Nat) (hg : 100 ≤ g) {H dw da k : Nat} {tm : List Team} {ab : List (Str × Str)} {t : Team} {nm : Str} {share : Int} (h : HouseD σ H dw da tm ab) (hgn : g ∉ tm.map (·.g)) (hz : nm.length ≤ 1000) (ha : nm.cps.all (· < 128) = true) (hn : goodN nm = true) (hnew : nm ∉ ab.map (·.1)) (hntm : nm ∉ tm.map (·.name)) (hk : tm[k]? = some t) (h0 : 1 ≤ share) (h1 : share ≤ 12) (hnt : nm ∉ t.l.map (·.name)) (hl : t.l.length ≤ 1000000) (hal : ab.length ≤ 1000000) (htl : tm.length ≤ 1000000)
    (hq : ∀ a W d σ', HouseD σ' H dw da (tm.set k { t with l := t.l ++ [⟨nm, a, share, 0, false⟩] } ++ [⟨nm, W, d, g, 0, []⟩]) (ab ++ [(nm, t.name)]) → KpH σ σ' → Q .none σ') : WFn (cx w mean mg mb) ⟨n + 5, true, sc⟩ m_House_team [.ref H, .str nm, .str t.name, .int share] ρ Q X σ := by
  have hH := h.hou
  refine WFn.fn4 (p1 := "self") (p2 := "name") (p3 := "above") (p4 := "share") ⟨⟨_, _, _, _, _, _, _, _, _, _, _, _, _, (rfl : (Mine.hd.heap_39 w.params).lookup m_House_team = _), by kernel_rfl, us4 fun _ _ _ _ => rfl⟩, by kernel_rfl⟩ ?_
  with_reducible refine WSs.cons ?_
  with_reducible refine WS.expr (by with_unfolding_all (first | exact fun _ _ => rfl | exact fun _ _ _ => rfl)) ?_
  with_reducible refine WE.method (by with_unfolding_all (first | exact fun _ _ => rfl | exact fun _ _ _ => rfl)) rfl rfl rfl ?_
  with_reducible refine WE.localA (by kernel_rfl) (by kernel_rfl) (by walk_at "lk") ?_
  with_reducible refine WM.inst (by walk_at "hp") ms_House_stand (by kernel_rfl) ?_
  with_reducible refine And.intro (Callee.meth ms_House_stand) ?_
  with_reducible refine WEs.cons rfl ?_
  with_reducible refine WE.localA (by kernel_rfl) (by kernel_rfl) (by walk_at "lk") ?_
  with_reducible refine WEs.cons rfl ?_
  with_reducible refine WE.localA (by kernel_rfl) (by kernel_rfl) (by walk_at "lk") ?_
  with_reducible refine WEs.cons rfl ?_
  with_reducible refine WE.localA (by kernel_rfl) (by kernel_rfl) (by walk_at "lk") ?_
  with_reducible refine WEs.nil ?_
  refine WCall.of_fn (stand_ok h hz ha hn hnew hk h0 h1 hnt hl hal fun a σ1 h1' k1 => ?_)
  have en : (tm.set k { t with l := t.l ++ [⟨nm, a, share, 0, false⟩] }).map (·.name) = tm.map (·.name) := map_set_same _ hk rfl
  have eg : (tm.set k { t with l := t.l ++ [⟨nm, a, share, 0, false⟩] }).map (·.g) = tm.map (·.g) := map_set_same _ hk rfl
  have el : (tm.set k { t with l := t.l ++ [⟨nm, a, share, 0, false⟩] }).length = tm.length := List.length_set ..
  have hq' := hq a
  clear hq
  generalize tm.set k { t with l := t.l ++ [⟨nm, a, share, 0, false⟩] } = tm2 at h1' en eg el hq'
  generalize ab ++ [(nm, t.name)] = ab2 at h1' hq'
  with_reducible refine WSs.cons ?_
  with_reducible refine WS.setItem (by with_unfolding_all (first | exact fun _ _ => rfl | exact fun _ _ _ => rfl)) ?_
  with_reducible refine WE.call rfl rfl ?_
  with_reducible refine WE.globalA (by kernel_rfl) g_Wheel ?_
  with_reducible refine And.intro (Callee.cls mi_Wheel) ?_
  with_reducible refine WEs.nil ?_
  refine WCall.of_fn (make_wheelF g fun W d σ2 n1 n2 hw e2 => ?_)
  have h2 := h1'.ext e2
  have hH2 := h2.hou
  have hd2 := h2.dws
  with_reducible refine WE.attr (by with_unfolding_all (first | exact fun _ _ => rfl | exact fun _ _ _ => rfl)) ?_
  with_reducible refine WE.localA (by kernel_rfl) (by kernel_rfl) (by walk_at "lk") ?_
  with_reducible refine WGet.inst (by walk_at "hp") (by kernel_rfl) (by repeat (first | (with_reducible exact lk_head) | (with_reducible refine lk_tail (by kernel_rfl) ?_))) (by with_unfolding_all rfl) ?_
  with_reducible refine WE.localA (by kernel_rfl) (by kernel_rfl) (by walk_at "lk") ?_
  refine WPut.sdict hd2 (by simpa [tents, el] using htl) ?_
  rw [putK_no (by rw [tents_names, en]; exact hntm)]
  with_reducible refine WSs.nil ?_
  have et : tents (tm2 ++ [⟨nm, W, d, g, 0, []⟩]) = tents tm2 ++ [(nm, .ref W)] := by simp [tents]
  rw [← et]
  have hg1 : g ≠ 1 := by walk_at "om"
  refine hq' W d _ ⟨Hp.ne (fun q => ?_) hH2, Hp.self, Hp.ne (Ne.symm h2.dd) h2.das, fun u hu => ?_, ?_, ?_, fun u hu => ?_, h2.an, h2.dd⟩ fun b t' o q m1 m100 => Hp.tag hd2 m1 (e2 _ _ (k1 b t' o q m1 m100))
  · rw [q, hd2] at hH2; exact nomatch hH2
  · rcases List.mem_append.mp hu with hu | hu
    · exact (h2.whl u hu).keep (Kpt.put hd2 (by have := h2.gg u hu; walk_at "om"))
    · rw [List.mem_singleton.mp hu]; exact hw.keep (Kpt.put hd2 hg1)
  · rw [List.map_append, en]
    refine List.nodup_append.mpr ⟨h.tn, by simp, fun x hx y hy q => ?_⟩
    have e2 : y = nm := by simpa using hy
    exact hntm (e2 ▸ q ▸ hx)
  · rw [List.map_append, eg]
    refine List.nodup_append.mpr ⟨h.tg, by simp, fun x hx y hy q => ?_⟩
    have e2 : y = g := by simpa using hy
    exact hgn (e2 ▸ q ▸ hx)
  · rcases List.mem_append.mp hu with hu | hu
    · exact h2.gg u hu
    · rw [List.mem_singleton.mp hu]; exact hg
theorem reshare_h {H dw da k j : Nat} {tm : List Team} {ab : List (Str × Str)} {t : Team} {x : Shr} {share : Int} (h : HouseD σ H dw da tm ab) (hk : tm[k]? = some t) (hm : (x.name, t.name) ∈ ab) (hj : t.l[j]? = some x) (h0 : 1 ≤ share) (h1 : share ≤ 12) (g0 : 1 ≤ x.share) (g1 : x.share ≤ 12)
    (hq : ∀ σ', HouseD σ' H dw da (tm.set k { t with l := t.l.set j (shared t.past share x) }) ab → KpH σ σ' → Q .none σ') : WFn (cx w mean mg mb) ⟨n + 4, true, sc⟩ m_House_reshare [.ref H, .str x.name, .int share] ρ Q X σ := by
  have hH := h.hou
  have hd := h.dws
  have hmt := List.mem_of_getElem? hk
  have hgt := getK_team h hmt
  have hwt := h.whl t hmt
  have hW : σ t.W = some (t.g, .inst a_Wheel [("past", .int t.past), ("sharers", .ref t.d)]) := hwt.whl
  refine WFn.fn3 (p1 := "self") (p2 := "name") (p3 := "share") ⟨⟨_, _, _, _, _, _, _, _, _, _, _, _, _, (rfl : (Mine.hd.heap_39 w.params).lookup m_House_reshare = _), by kernel_rfl, us3 fun _ _ _ => rfl⟩, by kernel_rfl⟩ ?_
  with_reducible refine WSs.cons ?_
  with_reducible refine WS.expr (by with_unfolding_all (first | exact fun _ _ => rfl | exact fun _ _ _ => rfl)) ?_
  with_reducible refine WE.method (by with_unfolding_all (first | exact fun _ _ => rfl | exact fun _ _ _ => rfl)) rfl rfl rfl ?_
  with_reducible refine WE.sub ?_
  with_reducible refine WE.attr (by with_unfolding_all (first | exact fun _ _ => rfl | exact fun _ _ _ => rfl)) ?_
  with_reducible refine WE.localA (by kernel_rfl) (by kernel_rfl) (by walk_at "lk") ?_
  with_reducible refine WGet.inst (by walk_at "hp") (by kernel_rfl) (by repeat (first | (with_reducible exact lk_head) | (with_reducible refine lk_tail (by kernel_rfl) ?_))) (by with_unfolding_all rfl) ?_
  with_reducible refine WE.method (by with_unfolding_all (first | exact fun _ _ => rfl | exact fun _ _ _ => rfl)) rfl rfl rfl ?_
  with_reducible refine WE.localA (by kernel_rfl) (by kernel_rfl) (by walk_at "lk") ?_
  with_reducible refine WM.inst (by walk_at "hp") ms_House_need (by kernel_rfl) ?_
  with_reducible refine And.intro (Callee.meth ms_House_need) ?_
  with_reducible refine WEs.cons rfl ?_
  with_reducible refine WE.localA (by kernel_rfl) (by kernel_rfl) (by walk_at "lk") ?_
  with_reducible refine WEs.nil ?_
  refine WCall.of_fn (hneed_c h hm ?_)
  with_reducible refine WSub.sdict (by with_unfolding_all (first | exact fun _ _ => rfl | exact fun _ _ _ => rfl)) (by walk_at "hp") (by with_reducible assumption) ?_
  with_reducible refine WM.inst (by walk_at "hp") ms_Wheel_reshare (by kernel_rfl) ?_
  with_reducible refine And.intro (Callee.meth ms_Wheel_reshare) ?_
  with_reducible refine WEs.cons rfl ?_
  with_reducible refine WE.localA (by kernel_rfl) (by kernel_rfl) (by walk_at "lk") ?_
  with_reducible refine WEs.cons rfl ?_
  with_reducible refine WE.localA (by kernel_rfl) (by kernel_rfl) (by walk_at "lk") ?_
  with_reducible refine WEs.nil ?_
  refine WCall.of_fn (reshare_c hwt hj h0 h1 g0 g1 fun σ1 h1' o1 => ?_)
  with_reducible refine WSs.nil ?_
  exact hq σ1 (h.one (t' := { t with l := t.l.set j (shared t.past share x) }) hk rfl rfl rfl h1' o1) fun b t' o q m1 m100 => o1.at q (by have := h.gg t hmt; walk_at "om")
theorem wheel_of_ok (t' : Nat) {H dw da : Nat} {tm : List Team} {ab : List (Str × Str)} {t : Team} (h : HouseD σ H dw da tm ab) (ht : t ∈ tm) (hl : t.l.length ≤ 1000000)
    (hq : ∀ W' d' l' σ', WheelD σ' W' d' t' t.past l' → l'.map core = t.l.map core → Extd σ σ' → Q (.ref W') σ') : WFn (cx w mean mg mb) ⟨n + 4, true, sc⟩ m_House_wheel_of [.ref H, .str t.name] ρ Q X σ := by
  have hH := h.hou
  have hd := h.dws
  have hgt := getK_team h ht
  have hwt := h.whl t ht
  have hW : σ t.W = some (t.g, .inst a_Wheel [("past", .int t.past), ("sharers", .ref t.d)]) := hwt.whl
  refine WFn.fn2 (p1 := "self") (p2 := "team") ⟨⟨_, _, _, _, _, _, _, _, _, _, _, _, _, (rfl : (Mine.hd.heap_39 w.params).lookup m_House_wheel_of = _), by kernel_rfl, us2 fun _ _ => rfl⟩, by kernel_rfl⟩ ?_
  with_reducible refine WSs.cons ?_
  with_reducible refine WS.ite ?_
  with_reducible refine WT.not ?_
  with_reducible refine WT.plain (by with_unfolding_all (first | exact fun _ _ => rfl | exact fun _ _ _ => rfl)) ?_
  with_reducible refine WE.method (by with_unfolding_all (first | exact fun _ _ => rfl | exact fun _ _ _ => rfl)) rfl rfl rfl ?_
  with_reducible refine WE.localA (by kernel_rfl) (by kernel_rfl) (by walk_at "lk") ?_
  with_reducible refine WM.inst (by walk_at "hp") ms_House_is_team (by kernel_rfl) ?_
  with_reducible refine And.intro (Callee.meth ms_House_is_team) ?_
  with_reducible refine WEs.cons rfl ?_
  with_reducible refine WE.localA (by kernel_rfl) (by kernel_rfl) (by walk_at "lk") ?_
  with_reducible refine WEs.nil ?_
  refine WCall.of_fn (is_team_yes h ht ?_)
  with_reducible refine WTr.bool ?_
  with_reducible refine if_nt ?_
  with_reducible refine WSs.nil ?_
  with_reducible refine WSs.cons ?_
  with_reducible refine WS.ret ?_
  with_reducible refine WE.method (by with_unfolding_all (first | exact fun _ _ => rfl | exact fun _ _ _ => rfl)) rfl rfl rfl ?_
  with_reducible refine WE.sub ?_
  with_reducible refine WE.attr (by with_unfolding_all (first | exact fun _ _ => rfl | exact fun _ _ _ => rfl)) ?_
  with_reducible refine WE.localA (by kernel_rfl) (by kernel_rfl) (by walk_at "lk") ?_
  with_reducible refine WGet.inst (by walk_at "hp") (by kernel_rfl) (by repeat (first | (with_reducible exact lk_head) | (with_reducible refine lk_tail (by kernel_rfl) ?_))) (by with_unfolding_all rfl) ?_
  with_reducible refine WE.localA (by kernel_rfl) (by kernel_rfl) (by walk_at "lk") ?_
  with_reducible refine WSub.sdict (by with_unfolding_all (first | exact fun _ _ => rfl | exact fun _ _ _ => rfl)) (by walk_at "hp") (by with_reducible assumption) ?_
  with_reducible refine WM.inst (by walk_at "hp") ms_Wheel_copied (by kernel_rfl) ?_
  with_reducible refine And.intro (Callee.meth ms_Wheel_copied) ?_
  with_reducible refine WEs.nil ?_
  refine WCall.of_fn (copied_c t' hwt hl fun W' d' l' σ' n' w' c' e' => ?_)
  skip
  exact hq W' d' l' σ' w' c' e'
theorem delK_tents (tm : List Team) (nm : Str) : delK (tents tm) nm = tents (tm.filter fun u => decide (u.name ≠ nm)) := by
  unfold delK tents
  rw [List.filter_map]
  rfl
theorem delK_aents (ab : List (Str × Str)) (nm : Str) : delK (aents ab) nm = aents (ab.filter fun p => decide (p.1 ≠ nm)) := by
  unfold delK aents
  rw [List.filter_map]
  rfl
theorem HouseD.popT {σ : Hp} {H dw da : Nat} {tm : List Team} {ab : List (Str × Str)} (h : HouseD σ H dw da tm ab) (nm : Str) : HouseD (σ.put dw 1 (.sdict (tents (tm.filter fun u => decide (u.name ≠ nm))))) H dw da (tm.filter fun u => decide (u.name ≠ nm)) ab := by
  have sub : (tm.filter fun u => decide (u.name ≠ nm)).Sublist tm := List.filter_sublist
  refine ⟨Hp.ne (fun q => ?_) h.hou, Hp.self, Hp.ne (Ne.symm h.dd) h.das, fun u hu => (h.whl u (sub.subset hu)).keep (Kpt.put h.dws (by have := h.gg u (sub.subset hu); walk_at "om")), List.Nodup.sublist (sub.map _) h.tn, List.Nodup.sublist (sub.map _) h.tg, fun u hu => h.gg u (sub.subset hu), h.an, h.dd⟩
  have hH := h.hou
  rw [q, h.dws] at hH; exact nomatch hH
theorem HouseD.popA {σ : Hp} {H dw da : Nat} {tm : List Team} {ab : List (Str × Str)} (h : HouseD σ H dw da tm ab) (nm : Str) : HouseD (σ.put da 1 (.sdict (aents (ab.filter fun p => decide (p.1 ≠ nm))))) H dw da tm (ab.filter fun p => decide (p.1 ≠ nm)) := by
  have sub : (ab.filter fun p => decide (p.1 ≠ nm)).Sublist ab := List.filter_sublist
  refine ⟨Hp.ne (fun q => ?_) h.hou, Hp.ne h.dd h.dws, Hp.self, fun u hu => (h.whl u hu).keep (Kpt.put h.das (by have := h.gg u hu; walk_at "om")), h.tn, h.tg, h.gg, List.Nodup.sublist (sub.map _) h.an, h.dd⟩
  have hH := h.hou
  rw [q, h.das] at hH; exact nomatch hH
theorem leave_team {H dw da k j : Nat} {tm : List Team} {ab : List (Str × Str)} {t u : Team} {x : Shr} (h : HouseD σ H dw da tm ab) (hu : u ∈ tm) (hun : u.name = x.name) (hul : u.l = []) (hk : (tm.filter fun u => decide (u.name ≠ x.name))[k]? = some t) (hm : (x.name, t.name) ∈ ab) (hj : t.l[j]? = some x) (hl : t.l.length ≤ 1000000) (hal : ab.length ≤ 1000000) (htl : tm.length ≤ 1000000)
    (hq : ∀ σ', HouseD σ' H dw da ((tm.filter fun u => decide (u.name ≠ x.name)).set k { t with l := t.l.eraseIdx j }) (ab.filter fun p => decide (p.1 ≠ x.name)) → KpH σ σ' → Q .none σ') : WFn (cx w mean mg mb) ⟨n + 4, true, sc⟩ m_House_leave [.ref H, .str x.name] ρ Q X σ := by
  have hH := h.hou
  have hd := h.dws
  have hgu := getK_team h hu
  rw [hun] at hgu
  have hwu := h.whl u hu
  have hWu : σ u.W = some (u.g, .inst a_Wheel [("past", .int u.past), ("sharers", .ref u.d)]) := hwu.whl
  refine WFn.fn2 (p1 := "self") (p2 := "name") ⟨⟨_, _, _, _, _, _, _, _, _, _, _, _, _, (rfl : (Mine.hd.heap_39 w.params).lookup m_House_leave = _), by kernel_rfl, us2 fun _ _ => rfl⟩, by kernel_rfl⟩ ?_
  with_reducible refine WSs.cons ?_
  with_reducible refine WS.assign (by with_unfolding_all (first | exact fun _ _ => rfl | exact fun _ _ _ => rfl)) ?_
  with_reducible refine WE.method (by with_unfolding_all (first | exact fun _ _ => rfl | exact fun _ _ _ => rfl)) rfl rfl rfl ?_
  with_reducible refine WE.localA (by kernel_rfl) (by kernel_rfl) (by walk_at "lk") ?_
  with_reducible refine WM.inst (by walk_at "hp") ms_House_need (by kernel_rfl) ?_
  with_reducible refine And.intro (Callee.meth ms_House_need) ?_
  with_reducible refine WEs.cons rfl ?_
  with_reducible refine WE.localA (by kernel_rfl) (by kernel_rfl) (by walk_at "lk") ?_
  with_reducible refine WEs.nil ?_
  refine WCall.of_fn (hneed_c h hm ?_)
  with_reducible refine WSt.localA (by kernel_rfl) ?_
  with_reducible refine WSs.cons ?_
  with_reducible refine WS.ite ?_
  with_reducible refine WT.cmp1 rfl ?_
  with_reducible refine WE.localA (by kernel_rfl) (by kernel_rfl) (by walk_at "lk") ?_
  with_reducible refine WE.attr (by with_unfolding_all (first | exact fun _ _ => rfl | exact fun _ _ _ => rfl)) ?_
  with_reducible refine WE.localA (by kernel_rfl) (by kernel_rfl) (by walk_at "lk") ?_
  with_reducible refine WGet.inst (by walk_at "hp") (by kernel_rfl) (by repeat (first | (with_reducible exact lk_head) | (with_reducible refine lk_tail (by kernel_rfl) ?_))) (by with_unfolding_all rfl) ?_
  with_reducible refine WC.inS_t (by walk_at "hp") (by with_reducible assumption) ?_
  with_reducible refine WTr.bool ?_
  with_reducible refine if_tt ?_
  with_reducible refine WSs.cons ?_
  with_reducible refine WS.ite ?_
  with_reducible refine WT.cmp1 rfl ?_
  with_reducible refine WE.method (by with_unfolding_all (first | exact fun _ _ => rfl | exact fun _ _ _ => rfl)) rfl rfl rfl ?_
  with_reducible refine WE.sub ?_
  with_reducible refine WE.attr (by with_unfolding_all (first | exact fun _ _ => rfl | exact fun _ _ _ => rfl)) ?_
  with_reducible refine WE.localA (by kernel_rfl) (by kernel_rfl) (by walk_at "lk") ?_
  with_reducible refine WGet.inst (by walk_at "hp") (by kernel_rfl) (by repeat (first | (with_reducible exact lk_head) | (with_reducible refine lk_tail (by kernel_rfl) ?_))) (by with_unfolding_all rfl) ?_
  with_reducible refine WE.localA (by kernel_rfl) (by kernel_rfl) (by walk_at "lk") ?_
  with_reducible refine WSub.sdict (by with_unfolding_all (first | exact fun _ _ => rfl | exact fun _ _ _ => rfl)) (by walk_at "hp") (by with_reducible assumption) ?_
  with_reducible refine WM.inst (by walk_at "hp") ms_Wheel_names (by kernel_rfl) ?_
  with_reducible refine And.intro (Callee.meth ms_Wheel_names) ?_
  with_reducible refine WEs.nil ?_
  refine WCall.of_fn (names_c 9 hwu (by rw [hul]; exact Nat.zero_le _) fun b hb => ?_)
  rw [hul]
  have h1 := h.ext (σ' := σ.put b 9 (.list (([] : List Shr).map (·.name) |>.map .str))) fun a p q => Hp.new hb.none q
  have k1 : KpH σ (σ.put b 9 (.list (([] : List Shr).map (·.name) |>.map .str))) := fun a t' o q _ _ => Hp.new hb.none q
  have hb1 : (σ.put b 9 (.list (([] : List Shr).map (·.name) |>.map .str))) b = some (9, .list []) := Hp.self
  generalize σ.put b 9 (.list (([] : List Shr).map (·.name) |>.map .str)) = σ1 at h1 k1 hb1 ⊢
  clear hH hd hWu hwu hb
  skip
  refine WE.list 9 ?_
  with_reducible refine WEs.nil ?_
  refine ⟨by simp, fun b2 hb2 => ?_⟩
  refine WC.ne (Nat.succ_le_succ (Nat.zero_le _)) (by decide) (RnV.listT (k := 1) (ListAt.own (Hp.new hb2.none hb1)) (ListAt.own Hp.self) .nil) ?_
  have h2 := h1.ext (σ' := σ1.put b2 9 (.list [])) fun a p q => Hp.new hb2.none q
  have k2 : KpH σ (σ1.put b2 9 (.list [])) := fun a t' o q m1 m100 => Hp.new hb2.none (k1 a t' o q m1 m100)
  generalize σ1.put b2 9 (.list []) = σ2 at h2 k2 ⊢
  clear h1 k1 hb1 hb2
  have hH := h2.hou
  have hd := h2.dws
  with_reducible refine WTr.bool ?_
  with_reducible refine if_ff ?_
  with_reducible refine WSs.nil ?_
  with_reducible refine WSs.cons ?_
  with_reducible refine WS.expr (by with_unfolding_all (first | exact fun _ _ => rfl | exact fun _ _ _ => rfl)) ?_
  with_reducible refine WE.method (by with_unfolding_all (first | exact fun _ _ => rfl | exact fun _ _ _ => rfl)) rfl rfl rfl ?_
  with_reducible refine WE.attr (by with_unfolding_all (first | exact fun _ _ => rfl | exact fun _ _ _ => rfl)) ?_
  with_reducible refine WE.localA (by kernel_rfl) (by kernel_rfl) (by walk_at "lk") ?_
  with_reducible refine WGet.inst (by walk_at "hp") (by kernel_rfl) (by repeat (first | (with_reducible exact lk_head) | (with_reducible refine lk_tail (by kernel_rfl) ?_))) (by with_unfolding_all rfl) ?_
  refine WM.dictPop hd ?_
  with_reducible refine And.intro (Callee.con rfl) ?_
  with_reducible refine WEs.cons rfl ?_
  with_reducible refine WE.localA (by kernel_rfl) (by kernel_rfl) (by walk_at "lk") ?_
  with_reducible refine WEs.nil ?_
  refine WCall.dictPop hd (by simpa [tents] using htl) hgu ?_
  rw [delK_tents]
  have h3 := h2.popT x.name
  have k3 : KpH σ (σ2.put dw 1 (.sdict (tents (tm.filter fun u => decide (u.name ≠ x.name))))) := fun a t' o q m1 m100 => Hp.tag hd m1 (k2 a t' o q m1 m100)
  generalize σ2.put dw 1 (.sdict (tents (tm.filter fun u => decide (u.name ≠ x.name)))) = σ3 at h3 k3 ⊢
  clear h2 k2 hH hd hgu
  generalize (tm.filter fun u => decide (u.name ≠ x.name)) = tm3 at h3 hk hq
  have hH := h3.hou
  have hd := h3.dws
  have hmt := List.mem_of_getElem? hk
  have hgt := getK_team h3 hmt
  have hwt := h3.whl t hmt
  have hW : σ3 t.W = some (t.g, .inst a_Wheel [("past", .int t.past), ("sharers", .ref t.d)]) := hwt.whl
  with_reducible refine WSs.nil ?_
  with_reducible refine WSs.cons ?_
  with_reducible refine WS.expr (by with_unfolding_all (first | exact fun _ _ => rfl | exact fun _ _ _ => rfl)) ?_
  with_reducible refine WE.method (by with_unfolding_all (first | exact fun _ _ => rfl | exact fun _ _ _ => rfl)) rfl rfl rfl ?_
  with_reducible refine WE.sub ?_
  with_reducible refine WE.attr (by with_unfolding_all (first | exact fun _ _ => rfl | exact fun _ _ _ => rfl)) ?_
  with_reducible refine WE.localA (by kernel_rfl) (by kernel_rfl) (by walk_at "lk") ?_
  with_reducible refine WGet.inst (by walk_at "hp") (by kernel_rfl) (by repeat (first | (with_reducible exact lk_head) | (with_reducible refine lk_tail (by kernel_rfl) ?_))) (by with_unfolding_all rfl) ?_
  with_reducible refine WE.localA (by kernel_rfl) (by kernel_rfl) (by walk_at "lk") ?_
  with_reducible refine WSub.sdict (by with_unfolding_all (first | exact fun _ _ => rfl | exact fun _ _ _ => rfl)) (by walk_at "hp") (by with_reducible assumption) ?_
  with_reducible refine WM.inst (by walk_at "hp") ms_Wheel_leave (by kernel_rfl) ?_
  with_reducible refine And.intro (Callee.meth ms_Wheel_leave) ?_
  with_reducible refine WEs.cons rfl ?_
  with_reducible refine WE.localA (by kernel_rfl) (by kernel_rfl) (by walk_at "lk") ?_
  with_reducible refine WEs.nil ?_
  refine WCall.of_fn (leave_c hwt hl hj fun σ4 h4 o4 => ?_)
  have hh := h3.one (t' := { t with l := t.l.eraseIdx j }) hk rfl rfl rfl h4 o4
  have k4 : KpH σ σ4 := fun b t' o q m1 m100 => o4.at (k3 b t' o q m1 m100) (by have := h3.gg t hmt; walk_at "om")
  clear hH hd
  have hH := hh.hou
  have hda := hh.das
  with_reducible refine WSs.cons ?_
  with_reducible refine WS.expr (by with_unfolding_all (first | exact fun _ _ => rfl | exact fun _ _ _ => rfl)) ?_
  with_reducible refine WE.method (by with_unfolding_all (first | exact fun _ _ => rfl | exact fun _ _ _ => rfl)) rfl rfl rfl ?_
  with_reducible refine WE.attr (by with_unfolding_all (first | exact fun _ _ => rfl | exact fun _ _ _ => rfl)) ?_
  with_reducible refine WE.localA (by kernel_rfl) (by kernel_rfl) (by walk_at "lk") ?_
  with_reducible refine WGet.inst (by walk_at "hp") (by kernel_rfl) (by repeat (first | (with_reducible exact lk_head) | (with_reducible refine lk_tail (by kernel_rfl) ?_))) (by with_unfolding_all rfl) ?_
  refine WM.dictPop hda ?_
  with_reducible refine And.intro (Callee.con rfl) ?_
  with_reducible refine WEs.cons rfl ?_
  with_reducible refine WE.localA (by kernel_rfl) (by kernel_rfl) (by walk_at "lk") ?_
  with_reducible refine WEs.nil ?_
  refine WCall.dictPop hda (by simpa [aents] using hal) (getK_above hh hm) ?_
  rw [delK_aents]
  with_reducible refine WSs.nil ?_
  exact hq _ (hh.popA x.name) fun b t' o q m1 m100 => Hp.tag hda m1 (k4 b t' o q m1 m100)
def nsh (x : Shr) : Str × Int := (x.name, x.share)
/-- the teams make a tree: each stands in a team before it -/
structure Tree (tm : List Team) (ab : List (Str × Str)) : Prop where
  root : ∃ t : Team, tm[0]? = some t ∧ t.name = ("" : Str)
  up : ∀ (k : Nat) (t : Team), tm[k]? = some t → 0 < k → ∃ (k' : Nat) (t' : Team) (j : Nat) (x : Shr), k' < k ∧ tm[k']? = some t' ∧ (t.name, t'.name) ∈ ab ∧ t'.l[j]? = some x ∧ x.name = t.name
  mem : ∀ (k : Nat) (t : Team) (j : Nat) (x : Shr), tm[k]? = some t → t.l[j]? = some x → (x.name, t.name) ∈ ab
  top : ("" : Str) ∉ ab.map (·.1)
def anyR (l : List Shr) : Bool := l.any (·.ready)
/-- a team is ready above it where somebody in it is ready; but for the teams in the list b -/
def Link (tm : List Team) (ab : List (Str × Str)) (b : Nat → Prop) : Prop := ∀ (k : Nat) (t : Team) (k' : Nat) (t' : Team) (j : Nat) (x : Shr), tm[k]? = some t → ¬ b k → (t.name, t'.name) ∈ ab → tm[k']? = some t' → t'.l[j]? = some x → x.name = t.name → x.ready = anyR t.l
/-- the same but for clocks, pasts and who is ready -/
structure Same (tm tm' : List Team) : Prop where
  len : tm'.length = tm.length
  at_ : ∀ (k : Nat) (t : Team), tm[k]? = some t → ∃ t' : Team, tm'[k]? = some t' ∧ t'.name = t.name ∧ t'.W = t.W ∧ t'.d = t.d ∧ t'.g = t.g ∧ t'.l.map nsh = t.l.map nsh
theorem Same.refl (tm : List Team) : Same tm tm := ⟨rfl, fun k t h => ⟨t, h, rfl, rfl, rfl, rfl, rfl⟩⟩
theorem Same.trans {a b c : List Team} (h : Same a b) (k : Same b c) : Same a c := ⟨k.len.trans h.len, fun i t ht => by
  obtain ⟨t1, h1, n1, w1, d1, g1, l1⟩ := h.at_ i t ht
  obtain ⟨t2, h2, n2, w2, d2, g2, l2⟩ := k.at_ i t1 h1
  exact ⟨t2, h2, n2.trans n1, w2.trans w1, d2.trans d1, g2.trans g1, l2.trans l1⟩⟩
theorem Same.set {tm : List Team} {k : Nat} {t t' : Team} (hk : tm[k]? = some t) (h : t'.name = t.name ∧ t'.W = t.W ∧ t'.d = t.d ∧ t'.g = t.g ∧ t'.l.map nsh = t.l.map nsh) : Same tm (tm.set k t') := ⟨List.length_set .., fun i u hu => by
  by_cases q : k = i
  · subst q
    have : u = t := Option.some.inj (hu.symm.trans hk)
    subst this
    exact ⟨t', List.getElem?_set_self (List.getElem?_eq_some_iff.mp hk).1, h⟩
  · exact ⟨u, by rw [List.getElem?_set_ne q]; exact hu, rfl, rfl, rfl, rfl, rfl⟩⟩
theorem Same.names {tm tm' : List Team} (h : Same tm tm') : tm'.map (·.name) = tm.map (·.name) := by
  refine List.ext_getElem? fun i => ?_
  rw [List.getElem?_map, List.getElem?_map]
  cases e : tm[i]? with
  | none =>
    have : tm'[i]? = Option.none := by
      rw [List.getElem?_eq_none_iff] at e ⊢
      rw [h.len]; exact e
    rw [this]
  | some t =>
    obtain ⟨t', h1, n1, _⟩ := h.at_ i t e
    rw [h1]
    exact congrArg some n1
theorem rows_at {l l' : List Shr} (h : l'.map nsh = l.map nsh) {j : Nat} {x : Shr} (hj : l[j]? = some x) : ∃ x', l'[j]? = some x' ∧ x'.name = x.name ∧ x'.share = x.share := by
  have e : (l'.map nsh)[j]? = some (x.name, x.share) := by rw [h, List.getElem?_map, hj]; rfl
  rw [List.getElem?_map] at e
  obtain ⟨x', h1, h2⟩ := Option.map_eq_some_iff.mp e
  exact ⟨x', h1, congrArg (·.1) h2, congrArg (·.2) h2⟩
theorem Same.back {tm tm' : List Team} (s : Same tm tm') {k : Nat} {t' : Team} (hk : tm'[k]? = some t') : ∃ t : Team, tm[k]? = some t ∧ t'.name = t.name ∧ t'.l.map nsh = t.l.map nsh := by
  have hlt : k < tm.length := by rw [← s.len]; exact (List.getElem?_eq_some_iff.mp hk).1
  obtain ⟨t2, h2, n2, _, _, _, l2⟩ := s.at_ k tm[k] (List.getElem?_eq_getElem hlt)
  have : t' = t2 := Option.some.inj (hk.symm.trans h2)
  subst this
  exact ⟨tm[k], List.getElem?_eq_getElem hlt, n2, l2⟩
theorem Tree.same {tm tm' : List Team} {ab : List (Str × Str)} (h : Tree tm ab) (s : Same tm tm') : Tree tm' ab := by
  refine ⟨?_, ?_, ?_, h.top⟩
  · obtain ⟨t, h1, h2⟩ := h.root
    obtain ⟨t', h1', n', _⟩ := s.at_ 0 t h1
    exact ⟨t', h1', n'.trans h2⟩
  · intro k t' hk hpos
    have hlt : k < tm.length := by rw [← s.len]; exact (List.getElem?_eq_some_iff.mp hk).1
    obtain ⟨k1, u, j, x, hlt1, hu, hab, hj, hx⟩ := h.up k tm[k] (List.getElem?_eq_getElem hlt) hpos
    obtain ⟨t2, h2, n2, _⟩ := s.at_ k tm[k] (List.getElem?_eq_getElem hlt)
    have : t' = t2 := Option.some.inj (hk.symm.trans h2)
    subst this
    obtain ⟨u', hu', nu, _, _, _, lu⟩ := s.at_ k1 u hu
    obtain ⟨x', hx', nx, _⟩ := rows_at lu hj
    exact ⟨k1, u', j, x', hlt1, hu', by rw [n2, nu]; exact hab, hx', by rw [nx, hx, n2]⟩
  · intro k t' j x' hk hj
    obtain ⟨t, ht, nt, lt⟩ := s.back hk
    obtain ⟨x, hx, nx, _⟩ := rows_at lt.symm hj
    rw [nt, ← nx]
    exact h.mem k t j x ht hx
theorem anyR_set {l : List Shr} {j : Nat} {y : Shr} (hj : j < l.length) (hy : y.ready = true) : anyR (l.set j y) = true := by
  unfold anyR
  rw [List.any_eq_true]
  exact ⟨y, List.mem_of_getElem? (List.getElem?_set_self hj), hy⟩
theorem anyR_same {l : List Shr} {j : Nat} {x y : Shr} (hj : l[j]? = some x) (h : y.ready = x.ready) : anyR (l.set j y) = anyR l := by
  have e : (l.set j y).map (·.ready) = l.map (·.ready) := map_set_same _ hj h
  have : ∀ m : List Shr, anyR m = (m.map (·.ready)).any id := fun m => by unfold anyR; rw [List.any_map]; rfl
  rw [this, this, e]
theorem pick_some : ∀ {l : List Shr} {f : Option Shr}, (anyR l = true ∨ f.isSome = true) → (pick l f).isSome = true
  | [], f, h => by
    rcases h with h | h
    · exact nomatch h
    · exact h
  | x :: l, f, h => by
    simp only [pick]
    refine pick_some ?_
    by_cases hr : (x.ready && better x f) = true
    · rw [if_pos hr]; exact .inr rfl
    · rw [if_neg hr]
      rcases h with h | h
      · unfold anyR at h
        rw [List.any_cons, Bool.or_eq_true] at h
        rcases h with h | h
        · cases f with
          | none => exact absurd (by rw [h]; rfl) hr
          | some y => exact .inr rfl
        · exact .inl h
      · exact .inr h
theorem pick_no {l : List Shr} (h : anyR l = false) : pick l Option.none = Option.none := pick_none fun x hx => by
  unfold anyR at h
  rw [List.any_eq_false] at h
  exact Bool.eq_false_iff.mpr (h x hx)
/-- the names of the hands keep their readiness but for f -/
def Hands (N : List Str) (f : Str → Bool → Bool) (tm tm' : List Team) : Prop := ∀ (k : Nat) (t : Team) (j : Nat) (y : Shr), tm[k]? = some t → t.l[j]? = some y → y.name ∉ N → ∃ (t' : Team) (y' : Shr), tm'[k]? = some t' ∧ t'.l[j]? = some y' ∧ y'.name = y.name ∧ y'.ready = f y.name y.ready
theorem Hands.trans {N : List Str} {f g : Str → Bool → Bool} {a b c : List Team} (h : Hands N f a b) (k : Hands N g b c) : Hands N (fun n r => g n (f n r)) a c := fun i t j y h1 h2 h3 => by
  obtain ⟨t1, y1, a1, a2, a3, a4⟩ := h i t j y h1 h2 h3
  obtain ⟨t2, y2, b1, b2, b3, b4⟩ := k i t1 j y1 a1 a2 (by rw [a3]; exact h3)
  exact ⟨t2, y2, b1, b2, b3.trans a3, by rw [b4, a3, a4]⟩
theorem uniq {tm : List Team} {ab : List (Str × Str)} (tr : Tree tm ab) (an : (ab.map (·.1)).Nodup) (tn : (tm.map (·.name)).Nodup) {k k' : Nat} {t t' : Team} {j j' : Nat} {x x' : Shr} (h1 : tm[k]? = some t) (h2 : t.l[j]? = some x) (h1' : tm[k']? = some t') (h2' : t'.l[j']? = some x') (e : x.name = x'.name) : k = k' := by
  have m1 := tr.mem k t j x h1 h2
  have m2 := tr.mem k' t' j' x' h1' h2'
  obtain ⟨a, ha⟩ := List.mem_iff_getElem?.mp m1
  obtain ⟨b, hb⟩ := List.mem_iff_getElem?.mp m2
  have := nodup_at an ha hb e
  subst this
  have e2 := Option.some.inj (ha.symm.trans hb)
  exact nodup_at tn h1 h1' (congrArg (·.2) e2)
theorem Hands.set {tm : List Team} {ab : List (Str × Str)} {N : List Str} (tr : Tree tm ab) (an : (ab.map (·.1)).Nodup) (tn : (tm.map (·.name)).Nodup) {k j : Nat} {t : Team} {x y : Shr} (hk : tm[k]? = some t) (hj : t.l[j]? = some x) (nd : (t.l.map (·.name)).Nodup) (hy : y.name = x.name) {p : Int} : Hands N (fun n b => if n = x.name then y.ready else b) tm (tm.set k { t with past := p, l := t.l.set j y }) := fun i u m z h1 h2 _ => by
  by_cases q : k = i
  · subst q
    have : u = t := Option.some.inj (h1.symm.trans hk)
    subst this
    refine ⟨_, if m = j then y else z, List.getElem?_set_self (List.getElem?_eq_some_iff.mp hk).1, ?_, ?_, ?_⟩
    · by_cases qm : m = j
      · subst qm; rw [if_pos rfl]; exact List.getElem?_set_self (List.getElem?_eq_some_iff.mp hj).1
      · rw [if_neg qm]; show (u.l.set j y)[m]? = _; rw [List.getElem?_set_ne (Ne.symm qm)]; exact h2
    · by_cases qm : m = j
      · subst qm; rw [if_pos rfl, hy]; rw [h2] at hj; rw [Option.some.inj hj]
      · rw [if_neg qm]
    · by_cases qm : m = j
      · subst qm; rw [if_pos rfl]; rw [h2] at hj; rw [Option.some.inj hj]; dsimp only; rw [if_pos rfl]
      · rw [if_neg qm]; dsimp only; rw [if_neg (fun e => qm (nodup_at nd h2 hj e))]
  · refine ⟨u, z, by rw [List.getElem?_set_ne q]; exact h1, h2, rfl, ?_⟩
    dsimp only
    rw [if_neg (fun e => q (uniq tr an tn h1 h2 hk hj e).symm)]
theorem Hands.team {tm : List Team} {N : List Str} {k j : Nat} {t : Team} {x y : Shr} (hk : tm[k]? = some t) (hj : t.l[j]? = some x) (hN : x.name ∈ N) {p : Int} : Hands N (fun _ b => b) tm (tm.set k { t with past := p, l := t.l.set j y }) := fun i u m z h1 h2 h3 => by
  by_cases q : k = i
  · subst q
    have : u = t := Option.some.inj (h1.symm.trans hk)
    subst this
    have qm : m ≠ j := fun e => by subst e; rw [h2] at hj; exact h3 (Option.some.inj hj ▸ hN)
    exact ⟨_, z, List.getElem?_set_self (List.getElem?_eq_some_iff.mp hk).1, (by show (u.l.set j y)[m]? = _; rw [List.getElem?_set_ne (Ne.symm qm)]; exact h2), rfl, rfl⟩
  · exact ⟨u, z, by rw [List.getElem?_set_ne q]; exact h1, h2, rfl, rfl⟩
theorem link_set {tm : List Team} {ab : List (Str × Str)} {b b' : Nat → Prop} (lk : Link tm ab b) (tr : Tree tm ab) (an : (ab.map (·.1)).Nodup) (tn : (tm.map (·.name)).Nodup) {k j : Nat} {t : Team} {x y : Shr} (hk : tm[k]? = some t) (hj : t.l[j]? = some x) (nd : (t.l.map (·.name)).Nodup) (hy : y.name = x.name) {p : Int}
    (hb : ∀ k3, ¬ b' k3 → k3 ≠ k ∧ (¬ b k3 ∨ ∃ t3 : Team, tm[k3]? = some t3 ∧ t3.name = x.name))
    (hx : ∀ (k3 : Nat) (t3 : Team), tm[k3]? = some t3 → t3.name = x.name → k3 ≠ k → ¬ b' k3 → y.ready = anyR t3.l) : Link (tm.set k { t with past := p, l := t.l.set j y }) ab b' := by
  intro k3 t3 k4 t4 i z h3 nb h34 h4 hi hz
  obtain ⟨n3, hor⟩ := hb k3 nb
  rw [List.getElem?_set_ne (Ne.symm n3)] at h3
  by_cases q : k = k4
  · subst q
    rw [List.getElem?_set_self (List.getElem?_eq_some_iff.mp hk).1] at h4
    have e4 := Option.some.inj h4
    subst e4
    by_cases qi : j = i
    · subst qi
      have hz' : (t.l.set j y)[j]? = some z := hi
      rw [List.getElem?_set_self (List.getElem?_eq_some_iff.mp hj).1] at hz'
      have := Option.some.inj hz'
      subst this
      exact hx k3 t3 h3 (by rw [← hz, hy]) n3 nb
    · have hz' : (t.l.set j y)[i]? = some z := hi
      rw [List.getElem?_set_ne qi] at hz'
      rcases hor with nb' | ⟨t5, h5, e5⟩
      · exact lk k3 t3 k t i z h3 nb' h34 hk hz' hz
      · have : t3 = t5 := Option.some.inj (h3.symm.trans h5)
        subst this
        exact absurd (nodup_at nd hj hz' (by rw [hz, e5])) qi
  · rw [List.getElem?_set_ne q] at h4
    rcases hor with nb' | ⟨t5, h5, e5⟩
    · exact lk k3 t3 k4 t4 i z h3 nb' h34 h4 hi hz
    · have : t3 = t5 := Option.some.inj (h3.symm.trans h5)
      subst this
      exact absurd (uniq tr an tn hk hj h4 hi (by rw [hz, e5])) q
/-- each entry is as it was, or changed by g; the pasts stay -/
def Upd (g : Int → Shr → Shr) (tm tm' : List Team) : Prop := ∀ (k : Nat) (t : Team), tm[k]? = some t → ∃ t' : Team, tm'[k]? = some t' ∧ t'.past = t.past ∧ ∀ (j : Nat) (y : Shr), t.l[j]? = some y → ∃ y' : Shr, t'.l[j]? = some y' ∧ (y' = y ∨ y' = g t.past y)
theorem Upd.trans {g : Int → Shr → Shr} (hg : ∀ p x, g p (g p x) = g p x) {a b c : List Team} (h : Upd g a b) (k : Upd g b c) : Upd g a c := fun i t ht => by
  obtain ⟨t1, h1, p1, e1⟩ := h i t ht
  obtain ⟨t2, h2, p2, e2⟩ := k i t1 h1
  refine ⟨t2, h2, p2.trans p1, fun j y hy => ?_⟩
  obtain ⟨y1, hy1, q1⟩ := e1 j y hy
  obtain ⟨y2, hy2, q2⟩ := e2 j y1 hy1
  refine ⟨y2, hy2, ?_⟩
  rw [p1] at q2
  rcases q1 with q1 | q1 <;> rcases q2 with q2 | q2
  · exact .inl (q2.trans q1)
  · exact .inr (by rw [q2, q1])
  · exact .inr (by rw [q2, q1])
  · exact .inr (by rw [q2, q1, hg])
theorem Upd.set {g : Int → Shr → Shr} {tm : List Team} {k j : Nat} {t : Team} {x : Shr} (hk : tm[k]? = some t) (hj : t.l[j]? = some x) : Upd g tm (tm.set k { t with past := t.past, l := t.l.set j (g t.past x) }) := fun i u hu => by
  by_cases q : k = i
  · subst q
    have : u = t := Option.some.inj (hu.symm.trans hk)
    subst this
    refine ⟨_, List.getElem?_set_self (List.getElem?_eq_some_iff.mp hk).1, rfl, fun m y hy => ?_⟩
    by_cases qm : j = m
    · subst qm
      have : y = x := Option.some.inj (hy.symm.trans hj)
      subst this
      exact ⟨_, List.getElem?_set_self (List.getElem?_eq_some_iff.mp hj).1, .inr rfl⟩
    · exact ⟨y, (by show (u.l.set j _)[m]? = _; rw [List.getElem?_set_ne qm]; exact hy), .inl rfl⟩
  · exact ⟨u, by rw [List.getElem?_set_ne q]; exact hu, rfl, fun m y hy => ⟨y, hy, .inl rfl⟩⟩
theorem woken_idem (p : Int) (x : Shr) : woken p (woken p x) = woken p x := by
  have h := woken_ready (past := p) (x := x)
  generalize woken p x = y at h
  unfold woken
  rw [if_pos h]
/-- the facts that a house's way up keeps -/
structure Up (σ0 σ : Hp) (H dw da : Nat) (tm0 tm : List Team) (ab : List (Str × Str)) (f : Str → Bool → Bool) (g : Int → Shr → Shr) : Prop where
  u : Upd g tm0 tm
  h : HouseD σ H dw da tm ab
  s : Same tm0 tm
  hd : Hands (tm0.map (·.name)) f tm0 tm
  kp : KpH σ0 σ
theorem top_link {tm : List Team} {ab : List (Str × Str)} (tr : Tree tm ab) (lk : Link tm ab (· = 0)) : Link tm ab fun _ => False := fun k t k' t' j x h1 _ h2 h3 h4 h5 => by
  by_cases q : k = 0
  · subst q
    obtain ⟨t2, r1, r2⟩ := tr.root
    have : t = t2 := Option.some.inj (h1.symm.trans r1)
    subst this
    exact absurd (List.mem_map.mpr ⟨_, h2, r2⟩) tr.top
  · exact lk k t k' t' j x h1 q h2 h3 h4 h5
theorem full_link {tm : List Team} {ab : List (Str × Str)} {k k' j : Nat} {t u : Team} {y : Shr} (tr : Tree tm ab) (an : (ab.map (·.1)).Nodup) (tn : (tm.map (·.name)).Nodup) (hu : tm[k']? = some u) (hj : u.l[j]? = some y) (nd : (u.l.map (·.name)).Nodup) (ht : tm[k]? = some t) (hy : y.name = t.name) (e : y.ready = anyR t.l) (lk : Link tm ab (· = k)) : Link tm ab fun _ => False := fun k3 t3 k4 t4 i z h1 _ h2 h3 h4 h5 => by
  by_cases q : k3 = k
  · subst q
    have : t3 = t := Option.some.inj (h1.symm.trans ht)
    subst this
    have e1 := uniq tr an tn hu hj h3 h4 (by rw [hy, h5])
    subst e1
    have : t4 = u := Option.some.inj (h3.symm.trans hu)
    subst this
    have e2 := nodup_at nd hj h4 (by rw [hy, h5])
    subst e2
    have : z = y := Option.some.inj (h4.symm.trans hj)
    rw [this]; exact e
  · exact lk k3 t3 k4 t4 i z h1 q h2 h3 h4 h5
theorem set_nsh {l : List Shr} {j : Nat} {x y : Shr} (hj : l[j]? = some x) (h1 : y.name = x.name) (h2 : y.share = x.share) : (l.set j y).map nsh = l.map nsh := map_set_same _ hj (by unfold nsh; rw [h1, h2])
theorem woken_nm {p : Int} {x : Shr} : (woken p x).name = x.name := by unfold woken; split <;> rfl
theorem woken_sh {p : Int} {x : Shr} : (woken p x).share = x.share := by unfold woken; split <;> rfl
theorem hwake_c {H dw da k j : Nat} {tm : List Team} {ab : List (Str × Str)} {t : Team} {x : Shr} (h : HouseD σ H dw da tm ab) (tr : Tree tm ab) (lk : Link tm ab fun _ => False) (hk : tm[k]? = some t) (hj : t.l[j]? = some x) (hn : x.name ∉ tm.map (·.name))
    (hq : ∀ tm' σ', Up σ σ' H dw da tm tm' ab (fun n b => if n = x.name then true else b) woken → Link tm' ab (fun _ => False) → Q (.bool (!x.ready)) σ') : WFn (cx w mean mg mb) ⟨n + 4, true, sc⟩ m_House_wake [.ref H, .str x.name] ρ Q X σ := by
  have hm := tr.mem k t j x hk hj
  have hH := h.hou
  have hd := h.dws
  have hmt := List.mem_of_getElem? hk
  have hgt := getK_team h hmt
  have hwt := h.whl t hmt
  have hW : σ t.W = some (t.g, .inst a_Wheel [("past", .int t.past), ("sharers", .ref t.d)]) := hwt.whl
  have hgg := h.gg t hmt
  refine WFn.fn2 (p1 := "self") (p2 := "name") ⟨⟨_, _, _, _, _, _, _, _, _, _, _, _, _, (rfl : (Mine.hd.heap_39 w.params).lookup m_House_wake = _), by kernel_rfl, us2 fun _ _ => rfl⟩, by kernel_rfl⟩ ?_
  with_reducible refine WSs.cons ?_
  with_reducible refine WS.assign (by with_unfolding_all (first | exact fun _ _ => rfl | exact fun _ _ _ => rfl)) ?_
  with_reducible refine WE.method (by with_unfolding_all (first | exact fun _ _ => rfl | exact fun _ _ _ => rfl)) rfl rfl rfl ?_
  with_reducible refine WE.localA (by kernel_rfl) (by kernel_rfl) (by walk_at "lk") ?_
  with_reducible refine WM.inst (by walk_at "hp") ms_House_need_hand (by kernel_rfl) ?_
  with_reducible refine And.intro (Callee.meth ms_House_need_hand) ?_
  with_reducible refine WEs.cons rfl ?_
  with_reducible refine WE.localA (by kernel_rfl) (by kernel_rfl) (by walk_at "lk") ?_
  with_reducible refine WEs.nil ?_
  refine WCall.of_fn (need_hand_c h hm hn ?_)
  with_reducible refine WSt.localA (by kernel_rfl) ?_
  with_reducible refine WSs.cons ?_
  with_reducible refine WS.ite ?_
  with_reducible refine WT.not ?_
  with_reducible refine WT.plain (by with_unfolding_all (first | exact fun _ _ => rfl | exact fun _ _ _ => rfl)) ?_
  with_reducible refine WE.method (by with_unfolding_all (first | exact fun _ _ => rfl | exact fun _ _ _ => rfl)) rfl rfl rfl ?_
  with_reducible refine WE.sub ?_
  with_reducible refine WE.attr (by with_unfolding_all (first | exact fun _ _ => rfl | exact fun _ _ _ => rfl)) ?_
  with_reducible refine WE.localA (by kernel_rfl) (by kernel_rfl) (by walk_at "lk") ?_
  with_reducible refine WGet.inst (by walk_at "hp") (by kernel_rfl) (by repeat (first | (with_reducible exact lk_head) | (with_reducible refine lk_tail (by kernel_rfl) ?_))) (by with_unfolding_all rfl) ?_
  with_reducible refine WE.localA (by kernel_rfl) (by kernel_rfl) (by walk_at "lk") ?_
  with_reducible refine WSub.sdict (by with_unfolding_all (first | exact fun _ _ => rfl | exact fun _ _ _ => rfl)) (by walk_at "hp") (by with_reducible assumption) ?_
  with_reducible refine WM.inst (by walk_at "hp") ms_Wheel_wake (by kernel_rfl) ?_
  with_reducible refine And.intro (Callee.meth ms_Wheel_wake) ?_
  with_reducible refine WEs.cons rfl ?_
  with_reducible refine WE.localA (by kernel_rfl) (by kernel_rfl) (by walk_at "lk") ?_
  with_reducible refine WEs.nil ?_
  refine WCall.of_fn (wake_c hwt hj fun σ1 h1 o1 => ?_)
  have hh := h.one (t' := { t with past := t.past, l := t.l.set j (woken t.past x) }) hk rfl rfl rfl h1 o1
  have U1 : Up σ σ1 H dw da tm (tm.set k { t with past := t.past, l := t.l.set j (woken t.past x) }) ab (fun n b => if n = x.name then true else b) woken := ⟨Upd.set hk hj, hh, Same.set hk ⟨rfl, rfl, rfl, rfl, set_nsh hj woken_nm woken_sh⟩, by
    have := Hands.set (N := tm.map (·.name)) tr h.an h.tn hk hj hwt.nn (y := woken t.past x) woken_nm (p := t.past)
    rwa [woken_ready] at this, fun a t' o q m1 m100 => o1.at q (by walk_at "om")⟩
  cases hr : x.ready with
  | true =>
    have ew : woken t.past x = x := by unfold woken; rw [if_pos hr]
    have et : tm.set k { t with past := t.past, l := t.l.set j (woken t.past x) } = tm := by rw [ew, set_same hj]; exact set_same hk
    rw [et] at U1
    rw [hr] at hq
    with_reducible refine WTr.bool ?_
    with_reducible refine if_pt (by decide) ?_
    with_reducible refine WSs.cons ?_
    with_reducible refine WS.ret ?_
    with_reducible refine WE.bool ?_
    exact hq tm σ1 U1 lk
  | false =>
    rw [hr] at hq
    have lk1 : Link (tm.set k { t with past := t.past, l := t.l.set j (woken t.past x) }) ab (· = k) := link_set lk tr h.an h.tn hk hj hwt.nn woken_nm (fun k3 n3 => ⟨n3, .inl fun q => q⟩) fun k3 t3 h3 e3 _ _ => absurd (List.mem_map.mpr ⟨t3, List.mem_of_getElem? h3, e3⟩) hn
    have tk : (tm.set k { t with past := t.past, l := t.l.set j (woken t.past x) })[k]? = some { t with past := t.past, l := t.l.set j (woken t.past x) } := List.getElem?_set_self (List.getElem?_eq_some_iff.mp hk).1
    have ar : anyR (t.l.set j (woken t.past x)) = true := anyR_set (List.getElem?_eq_some_iff.mp hj).1 woken_ready
    generalize tm.set k { t with past := t.past, l := t.l.set j (woken t.past x) } = tm1 at U1 lk1 tk hh
    clear hH hd hgt hW hwt h1 o1 hh
    with_reducible refine WTr.bool ?_
    with_reducible refine if_pf (by decide) ?_
    with_reducible refine WSs.nil ?_
    with_reducible refine WSs.cons ?_
    refine WS.while (fun kk ρ' σ' => ∃ tm' t', Up σ σ' H dw da tm tm' ab (fun n b => if n = x.name then true else b) woken ∧ Link tm' ab (· = kk) ∧ tm'[kk]? = some t' ∧ anyR t'.l = true ∧ ρ' "self" = some (.ref H) ∧ ρ' "team" = some (.str t'.name)) k ⟨tm1, _, U1, lk1, tk, ar, by walk_at "lk", by walk_at "lk"⟩ ?_
    rintro kk ρ' σ' ⟨tm', t', U, lk', tk', ar', r0, r1⟩
    have tr' := tr.same U.s
    have hH := U.h.hou
    have hd := U.h.dws
    have ha := U.h.das
    by_cases k0 : kk = 0
    · subst k0
      obtain ⟨t2, e1, e2⟩ := tr'.root
      have : t' = t2 := Option.some.inj (tk'.symm.trans e1)
      subst this
      rw [e2] at r1
      with_reducible refine WT.cmp1 rfl ?_
      with_reducible refine WE.localA (by kernel_rfl) (by kernel_rfl) (by walk_at "lk") ?_
      with_reducible refine WE.globalA (by kernel_rfl) g_TOP ?_
      with_reducible refine WC.neS ?_
      with_reducible refine WTr.bool ?_
      with_reducible refine if_pf (by decide) ?_
      with_reducible refine WSs.cons ?_
      with_reducible refine WS.ret ?_
      with_reducible refine WE.bool ?_
      exact hq tm' σ' U (top_link tr' lk')
    · obtain ⟨k2, u, j2, y, lt2, hu, hab, hj2, hy⟩ := tr'.up kk t' tk' (Nat.pos_of_ne_zero k0)
      have nn : ¬ t'.name = "" := fun e => by
        obtain ⟨t2, e1, e2⟩ := tr'.root
        exact k0 (nodup_at U.h.tn tk' e1 (by rw [e, e2]))
      have hga := getK_above U.h hab
      have hmu := List.mem_of_getElem? hu
      have hgu := getK_team U.h hmu
      have hwu := U.h.whl u hmu
      have hWu : σ' u.W = some (u.g, .inst a_Wheel [("past", .int u.past), ("sharers", .ref u.d)]) := hwu.whl
      have hggu := U.h.gg u hmu
      have nb : (t'.name != ("" : Str)) = true := bne_iff_ne.mpr nn
      with_reducible refine WT.cmp1 rfl ?_
      with_reducible refine WE.localA (by kernel_rfl) (by kernel_rfl) (by walk_at "lk") ?_
      with_reducible refine WE.globalA (by kernel_rfl) g_TOP ?_
      with_reducible refine WC.neS ?_
      with_reducible refine WTr.bool ?_
      with_reducible refine if_pt (by with_reducible assumption) ?_
      with_reducible refine WSs.cons ?_
      with_reducible refine WS.assign (by with_unfolding_all (first | exact fun _ _ => rfl | exact fun _ _ _ => rfl)) ?_
      with_reducible refine WE.sub ?_
      with_reducible refine WE.attr (by with_unfolding_all (first | exact fun _ _ => rfl | exact fun _ _ _ => rfl)) ?_
      with_reducible refine WE.localA (by kernel_rfl) (by kernel_rfl) (by walk_at "lk") ?_
      with_reducible refine WGet.inst (by walk_at "hp") (by kernel_rfl) (by repeat (first | (with_reducible exact lk_head) | (with_reducible refine lk_tail (by kernel_rfl) ?_))) (by with_unfolding_all rfl) ?_
      with_reducible refine WE.localA (by kernel_rfl) (by kernel_rfl) (by walk_at "lk") ?_
      with_reducible refine WSub.sdict (by with_unfolding_all (first | exact fun _ _ => rfl | exact fun _ _ _ => rfl)) (by walk_at "hp") (by with_reducible assumption) ?_
      with_reducible refine WSt.localA (by kernel_rfl) ?_
      with_reducible refine WSs.cons ?_
      with_reducible refine WS.ite ?_
      with_reducible refine WT.not ?_
      with_reducible refine WT.plain (by with_unfolding_all (first | exact fun _ _ => rfl | exact fun _ _ _ => rfl)) ?_
      with_reducible refine WE.method (by with_unfolding_all (first | exact fun _ _ => rfl | exact fun _ _ _ => rfl)) rfl rfl rfl ?_
      with_reducible refine WE.sub ?_
      with_reducible refine WE.attr (by with_unfolding_all (first | exact fun _ _ => rfl | exact fun _ _ _ => rfl)) ?_
      with_reducible refine WE.localA (by kernel_rfl) (by kernel_rfl) (by walk_at "lk") ?_
      with_reducible refine WGet.inst (by walk_at "hp") (by kernel_rfl) (by repeat (first | (with_reducible exact lk_head) | (with_reducible refine lk_tail (by kernel_rfl) ?_))) (by with_unfolding_all rfl) ?_
      with_reducible refine WE.localA (by kernel_rfl) (by kernel_rfl) (by walk_at "lk") ?_
      with_reducible refine WSub.sdict (by with_unfolding_all (first | exact fun _ _ => rfl | exact fun _ _ _ => rfl)) (by walk_at "hp") (by with_reducible assumption) ?_
      with_reducible refine WM.inst (by walk_at "hp") ms_Wheel_wake (by kernel_rfl) ?_
      with_reducible refine And.intro (Callee.meth ms_Wheel_wake) ?_
      with_reducible refine WEs.cons rfl ?_
      with_reducible refine WE.localA (by kernel_rfl) (by kernel_rfl) (by walk_at "lk") ?_
      with_reducible refine WEs.nil ?_
      rw [← hy]
      refine WCall.of_fn (wake_c hwu hj2 fun σ2 h2 o2 => ?_)
      have hh2 := U.h.one (t' := { u with past := u.past, l := u.l.set j2 (woken u.past y) }) hu rfl rfl rfl h2 o2
      have hin : y.name ∈ tm.map (·.name) := by rw [← U.s.names, hy]; exact List.mem_map.mpr ⟨t', List.mem_of_getElem? tk', rfl⟩
      have U2 : Up σ σ2 H dw da tm (tm'.set k2 { u with past := u.past, l := u.l.set j2 (woken u.past y) }) ab (fun n b => if n = x.name then true else b) woken := ⟨U.u.trans woken_idem (Upd.set hu hj2), hh2, U.s.trans (Same.set hu ⟨rfl, rfl, rfl, rfl, set_nsh hj2 woken_nm woken_sh⟩), U.hd.trans (Hands.team hu hj2 hin), fun a t' o q m1 m100 => o2.at (U.kp a t' o q m1 m100) (by walk_at "om")⟩
      cases hyr : y.ready with
      | true =>
        have ew : woken u.past y = y := by unfold woken; rw [if_pos hyr]
        have et : tm'.set k2 { u with past := u.past, l := u.l.set j2 (woken u.past y) } = tm' := by rw [ew, set_same hj2]; exact set_same hu
        rw [et] at U2
        with_reducible refine WTr.bool ?_
        with_reducible refine if_pt (by decide) ?_
        with_reducible refine WSs.cons ?_
        with_reducible refine WS.brk ?_
        with_reducible refine WSs.cons ?_
        with_reducible refine WS.ret ?_
        with_reducible refine WE.bool ?_
        exact hq tm' σ2 U2 (full_link tr' U.h.an U.h.tn hu hj2 hwu.nn tk' hy (by rw [hyr, ar']) lk')
      | false =>
        with_reducible refine WTr.bool ?_
        with_reducible refine if_pf (by decide) ?_
        with_reducible refine WSs.nil ?_
        with_reducible refine WSs.cons ?_
        with_reducible refine WS.assign (by with_unfolding_all (first | exact fun _ _ => rfl | exact fun _ _ _ => rfl)) ?_
        with_reducible refine WE.localA (by kernel_rfl) (by kernel_rfl) (by walk_at "lk") ?_
        with_reducible refine WSt.localA (by kernel_rfl) ?_
        with_reducible refine WSs.nil ?_
        refine ⟨k2, lt2, _, { u with past := u.past, l := u.l.set j2 (woken u.past y) }, U2, ?_, List.getElem?_set_self (List.getElem?_eq_some_iff.mp hu).1, anyR_set (List.getElem?_eq_some_iff.mp hj2).1 woken_ready, by walk_at "lk", by walk_at "lk"⟩
        refine link_set lk' tr' U.h.an U.h.tn hu hj2 hwu.nn woken_nm (fun k3 n3 => ⟨n3, ?_⟩) fun k3 t3 h3 e3 _ _ => ?_
        · by_cases q : k3 = kk
          · exact .inr ⟨t', by rw [q]; exact tk', hy.symm⟩
          · exact .inl q
        · have e4 := nodup_at U.h.tn h3 tk' (by rw [e3, hy])
          subst e4
          have : t3 = t' := Option.some.inj (h3.symm.trans tk')
          rw [woken_ready, this, ar']
def rested (_ : Int) (x : Shr) : Shr := { x with ready := false }
theorem anyR_mem {l : List Shr} {j : Nat} {x : Shr} (hj : l[j]? = some x) (hr : x.ready = true) : anyR l = true := by
  unfold anyR
  rw [List.any_eq_true]
  exact ⟨x, List.mem_of_getElem? hj, hr⟩
theorem hrest_c {H dw da k j : Nat} {tm : List Team} {ab : List (Str × Str)} {t : Team} {x : Shr} (h : HouseD σ H dw da tm ab) (tr : Tree tm ab) (lk : Link tm ab fun _ => False) (hk : tm[k]? = some t) (hj : t.l[j]? = some x) (hn : x.name ∉ tm.map (·.name)) (hz : ∀ u ∈ tm, u.l.length ≤ 1000000)
    (hq : ∀ tm' σ', Up σ σ' H dw da tm tm' ab (fun n b => if n = x.name then false else b) rested → Link tm' ab (fun _ => False) → Q (.bool x.ready) σ') : WFn (cx w mean mg mb) ⟨n + 4, true, sc⟩ m_House_rest [.ref H, .str x.name] ρ Q X σ := by
  have hm := tr.mem k t j x hk hj
  have hH := h.hou
  have hd := h.dws
  have hmt := List.mem_of_getElem? hk
  have hgt := getK_team h hmt
  have hwt := h.whl t hmt
  have hW : σ t.W = some (t.g, .inst a_Wheel [("past", .int t.past), ("sharers", .ref t.d)]) := hwt.whl
  have hgg := h.gg t hmt
  refine WFn.fn2 (p1 := "self") (p2 := "name") ⟨⟨_, _, _, _, _, _, _, _, _, _, _, _, _, (rfl : (Mine.hd.heap_39 w.params).lookup m_House_rest = _), by kernel_rfl, us2 fun _ _ => rfl⟩, by kernel_rfl⟩ ?_
  with_reducible refine WSs.cons ?_
  with_reducible refine WS.assign (by with_unfolding_all (first | exact fun _ _ => rfl | exact fun _ _ _ => rfl)) ?_
  with_reducible refine WE.method (by with_unfolding_all (first | exact fun _ _ => rfl | exact fun _ _ _ => rfl)) rfl rfl rfl ?_
  with_reducible refine WE.localA (by kernel_rfl) (by kernel_rfl) (by walk_at "lk") ?_
  with_reducible refine WM.inst (by walk_at "hp") ms_House_need_hand (by kernel_rfl) ?_
  with_reducible refine And.intro (Callee.meth ms_House_need_hand) ?_
  with_reducible refine WEs.cons rfl ?_
  with_reducible refine WE.localA (by kernel_rfl) (by kernel_rfl) (by walk_at "lk") ?_
  with_reducible refine WEs.nil ?_
  refine WCall.of_fn (need_hand_c h hm hn ?_)
  with_reducible refine WSt.localA (by kernel_rfl) ?_
  with_reducible refine WSs.cons ?_
  with_reducible refine WS.ite ?_
  with_reducible refine WT.not ?_
  with_reducible refine WT.plain (by with_unfolding_all (first | exact fun _ _ => rfl | exact fun _ _ _ => rfl)) ?_
  with_reducible refine WE.method (by with_unfolding_all (first | exact fun _ _ => rfl | exact fun _ _ _ => rfl)) rfl rfl rfl ?_
  with_reducible refine WE.sub ?_
  with_reducible refine WE.attr (by with_unfolding_all (first | exact fun _ _ => rfl | exact fun _ _ _ => rfl)) ?_
  with_reducible refine WE.localA (by kernel_rfl) (by kernel_rfl) (by walk_at "lk") ?_
  with_reducible refine WGet.inst (by walk_at "hp") (by kernel_rfl) (by repeat (first | (with_reducible exact lk_head) | (with_reducible refine lk_tail (by kernel_rfl) ?_))) (by with_unfolding_all rfl) ?_
  with_reducible refine WE.localA (by kernel_rfl) (by kernel_rfl) (by walk_at "lk") ?_
  with_reducible refine WSub.sdict (by with_unfolding_all (first | exact fun _ _ => rfl | exact fun _ _ _ => rfl)) (by walk_at "hp") (by with_reducible assumption) ?_
  with_reducible refine WM.inst (by walk_at "hp") ms_Wheel_rest (by kernel_rfl) ?_
  with_reducible refine And.intro (Callee.meth ms_Wheel_rest) ?_
  with_reducible refine WEs.cons rfl ?_
  with_reducible refine WE.localA (by kernel_rfl) (by kernel_rfl) (by walk_at "lk") ?_
  with_reducible refine WEs.nil ?_
  refine WCall.of_fn (rest_c hwt hj fun σ1 h1 o1 => ?_)
  have hh := h.one (t' := { t with past := t.past, l := t.l.set j { x with ready := false } }) hk rfl rfl rfl h1 o1
  have U1 : Up σ σ1 H dw da tm (tm.set k { t with past := t.past, l := t.l.set j { x with ready := false } }) ab (fun n b => if n = x.name then false else b) rested := ⟨Upd.set hk hj, hh, Same.set hk ⟨rfl, rfl, rfl, rfl, set_nsh (y := { x with ready := false }) hj rfl rfl⟩,
    Hands.set (N := tm.map (·.name)) tr h.an h.tn hk hj hwt.nn (y := { x with ready := false }) rfl (p := t.past), fun a t' o q m1 m100 => o1.at q (by walk_at "om")⟩
  cases hr : x.ready with
  | false =>
    have ew : ({ x with ready := false } : Shr) = x := by cases x; simp at hr; subst hr; rfl
    have et : tm.set k { t with past := t.past, l := t.l.set j { x with ready := false } } = tm := by rw [ew, set_same hj]; exact set_same hk
    rw [et] at U1
    rw [hr] at hq
    with_reducible refine WTr.bool ?_
    with_reducible refine if_nf ?_
    with_reducible refine WSs.cons ?_
    with_reducible refine WS.ret ?_
    with_reducible refine WE.bool ?_
    exact hq tm σ1 U1 lk
  | true =>
    rw [hr] at hq
    have tr1 := tr.same U1.s
    have lk1 : Link (tm.set k { t with past := t.past, l := t.l.set j { x with ready := false } }) ab (· = k) := link_set lk tr h.an h.tn hk hj hwt.nn (y := { x with ready := false }) rfl (fun k3 n3 => ⟨n3, .inl fun q => q⟩) fun k3 t3 h3 e3 _ _ => absurd (List.mem_map.mpr ⟨t3, List.mem_of_getElem? h3, e3⟩) hn
    have tk : (tm.set k { t with past := t.past, l := t.l.set j { x with ready := false } })[k]? = some { t with past := t.past, l := t.l.set j { x with ready := false } } := List.getElem?_set_self (List.getElem?_eq_some_iff.mp hk).1
    have pe : k = 0 ∨ ∃ (k2 : Nat) (u : Team) (j2 : Nat) (y : Shr), k2 < k ∧ (tm.set k { t with past := t.past, l := t.l.set j { x with ready := false } })[k2]? = some u ∧ (t.name, u.name) ∈ ab ∧ u.l[j2]? = some y ∧ y.name = t.name ∧ y.ready = true := by
      by_cases k0 : k = 0
      · exact .inl k0
      · obtain ⟨k2, u, j2, y, lt2, hu, hab, hj2, hy⟩ := tr.up k t hk (Nat.pos_of_ne_zero k0)
        refine .inr ⟨k2, u, j2, y, lt2, by rw [List.getElem?_set_ne (Nat.ne_of_gt lt2)]; exact hu, hab, hj2, hy, ?_⟩
        rw [lk k t k2 u j2 y hk (fun q => q) hab hu hj2 hy]
        exact anyR_mem hj hr
    have tl1 : ∀ u ∈ tm.set k { t with past := t.past, l := t.l.set j { x with ready := false } }, u.l.length ≤ 1000000 := fun u hu => by
      rcases mem_set_or hu with rfl | ⟨i, _, hi⟩
      · rw [List.length_set]; exact hz t hmt
      · exact hz u (List.mem_of_getElem? hi)
    generalize tm.set k { t with past := t.past, l := t.l.set j { x with ready := false } } = tm1 at U1 lk1 tk hh pe tl1 tr1
    clear hH hd hgt hW hwt h1 o1 hh
    with_reducible refine WTr.bool ?_
    with_reducible refine if_nt ?_
    with_reducible refine WSs.nil ?_
    with_reducible refine WSs.cons ?_
    refine WS.while (fun kk ρ' σ' => ∃ tm' t', Up σ σ' H dw da tm tm' ab (fun n b => if n = x.name then false else b) rested ∧ Link tm' ab (· = kk) ∧ tm'[kk]? = some t' ∧ (kk = 0 ∨ ∃ (k2 : Nat) (u : Team) (j2 : Nat) (y : Shr), k2 < kk ∧ tm'[k2]? = some u ∧ (t'.name, u.name) ∈ ab ∧ u.l[j2]? = some y ∧ y.name = t'.name ∧ y.ready = true) ∧ (∀ u ∈ tm', u.l.length ≤ 1000000) ∧ ρ' "self" = some (.ref H) ∧ ρ' "team" = some (.str t'.name)) k ⟨tm1, _, U1, lk1, tk, pe, tl1, by walk_at "lk", by walk_at "lk"⟩ ?_
    rintro kk ρ' σ' ⟨tm', t', U, lk', tk', pe', tl', r0, r1⟩
    have tr' := tr.same U.s
    have hH := U.h.hou
    have hd := U.h.dws
    by_cases k0 : kk = 0
    · subst k0
      obtain ⟨t2, e1, e2⟩ := tr'.root
      have : t' = t2 := Option.some.inj (tk'.symm.trans e1)
      subst this
      rw [e2] at r1
      with_reducible refine WT.bool ?_
      with_reducible refine WA.and ?_
      with_reducible refine WT.cmp1 rfl ?_
      with_reducible refine WE.localA (by kernel_rfl) (by kernel_rfl) (by walk_at "lk") ?_
      with_reducible refine WE.globalA (by kernel_rfl) g_TOP ?_
      with_reducible refine WC.neS ?_
      with_reducible refine WTr.bool ?_
      with_reducible refine if_pf (by decide) ?_
      with_reducible refine if_ff ?_
      with_reducible refine WSs.cons ?_
      with_reducible refine WS.ret ?_
      with_reducible refine WE.bool ?_
      exact hq tm' σ' U (top_link tr' lk')
    · obtain ⟨k2, u, j2, y, lt2, hu, hab, hj2, hy, hyr⟩ := pe'.resolve_left k0
      have nn : ¬ t'.name = "" := fun e => by
        obtain ⟨t2, e1, e2⟩ := tr'.root
        exact k0 (nodup_at U.h.tn tk' e1 (by rw [e, e2]))
      have nb : (t'.name != ("" : Str)) = true := bne_iff_ne.mpr nn
      have hmt' := List.mem_of_getElem? tk'
      have hgt' := getK_team U.h hmt'
      have hwt' := U.h.whl t' hmt'
      have hWt' : σ' t'.W = some (t'.g, .inst a_Wheel [("past", .int t'.past), ("sharers", .ref t'.d)]) := hwt'.whl
      have hggt' := U.h.gg t' hmt'
      with_reducible refine WT.bool ?_
      with_reducible refine WA.and ?_
      with_reducible refine WT.cmp1 rfl ?_
      with_reducible refine WE.localA (by kernel_rfl) (by kernel_rfl) (by walk_at "lk") ?_
      with_reducible refine WE.globalA (by kernel_rfl) g_TOP ?_
      with_reducible refine WC.neS ?_
      with_reducible refine WTr.bool ?_
      with_reducible refine if_pt (by with_reducible assumption) ?_
      with_reducible refine WA.and ?_
      with_reducible refine WT.cmp1 rfl ?_
      with_reducible refine WE.method (by with_unfolding_all (first | exact fun _ _ => rfl | exact fun _ _ _ => rfl)) rfl rfl rfl ?_
      with_reducible refine WE.sub ?_
      with_reducible refine WE.attr (by with_unfolding_all (first | exact fun _ _ => rfl | exact fun _ _ _ => rfl)) ?_
      with_reducible refine WE.localA (by kernel_rfl) (by kernel_rfl) (by walk_at "lk") ?_
      with_reducible refine WGet.inst (by walk_at "hp") (by kernel_rfl) (by repeat (first | (with_reducible exact lk_head) | (with_reducible refine lk_tail (by kernel_rfl) ?_))) (by with_unfolding_all rfl) ?_
      with_reducible refine WE.localA (by kernel_rfl) (by kernel_rfl) (by walk_at "lk") ?_
      with_reducible refine WSub.sdict (by with_unfolding_all (first | exact fun _ _ => rfl | exact fun _ _ _ => rfl)) (by walk_at "hp") (by with_reducible assumption) ?_
      with_reducible refine WM.inst (by walk_at "hp") ms_Wheel_whose (by kernel_rfl) ?_
      with_reducible refine And.intro (Callee.meth ms_Wheel_whose) ?_
      with_reducible refine WEs.nil ?_
      refine WCall.of_fn (whose_c hwt' (tl' t' hmt') fun b hb => ?_)
      have hh2 := U.h.one (t' := t') tk' rfl rfl rfl (hwt'.keep (σ' := σ'.put b t'.g (.list ((ents t'.l).map fun p => .str p.1))) (Kpt.new hb.none)) (Oth.refl.new hb.none)
      rw [set_same tk'] at hh2
      have U2 : Up σ (σ'.put b t'.g (.list ((ents t'.l).map fun p => .str p.1))) H dw da tm tm' ab (fun n b => if n = x.name then false else b) rested := ⟨U.u, hh2, U.s, U.hd, fun a t2 o q m1 m100 => Hp.new hb.none (U.kp a t2 o q m1 m100)⟩
      generalize σ'.put b t'.g (.list ((ents t'.l).map fun p => .str p.1)) = σ2 at U2 hh2 ⊢
      clear hb hWt' hwt' hH hd hgt' U
      have hH := U2.h.hou
      have hd := U2.h.dws
      have hda := U2.h.das
      cases har : anyR t'.l with
      | true =>
        have hp := pick_some (l := t'.l) (f := Option.none) (.inl har)
        obtain ⟨z, hz'⟩ := Option.isSome_iff_exists.mp hp
        rw [hz']
        simp only [whoV]
        with_reducible refine WE.none ?_
        with_reducible refine WC.isNS ?_
        with_reducible refine WTr.bool ?_
        with_reducible refine if_ff ?_
        with_reducible refine if_ff ?_
        with_reducible refine WSs.cons ?_
        with_reducible refine WS.ret ?_
        with_reducible refine WE.bool ?_
        exact hq tm' σ2 U2 (full_link tr' U2.h.an U2.h.tn hu hj2 (U2.h.whl u (List.mem_of_getElem? hu)).nn tk' hy (by rw [hyr, har]) lk')
      | false =>
        rw [pick_no har]
        simp only [whoV]
        have hga := getK_above U2.h hab
        have hmu := List.mem_of_getElem? hu
        have hgu := getK_team U2.h hmu
        have hwu := U2.h.whl u hmu
        have hWu : σ2 u.W = some (u.g, .inst a_Wheel [("past", .int u.past), ("sharers", .ref u.d)]) := hwu.whl
        have hggu := U2.h.gg u hmu
        with_reducible refine WE.none ?_
        with_reducible refine WC.isNN ?_
        with_reducible refine WTr.bool ?_
        with_reducible refine if_tt ?_
        with_reducible refine WA.and_nil ?_
        with_reducible refine if_tt ?_
        with_reducible refine WSs.cons ?_
        with_reducible refine WS.assign (by with_unfolding_all (first | exact fun _ _ => rfl | exact fun _ _ _ => rfl)) ?_
        with_reducible refine WE.sub ?_
        with_reducible refine WE.attr (by with_unfolding_all (first | exact fun _ _ => rfl | exact fun _ _ _ => rfl)) ?_
        with_reducible refine WE.localA (by kernel_rfl) (by kernel_rfl) (by walk_at "lk") ?_
        with_reducible refine WGet.inst (by walk_at "hp") (by kernel_rfl) (by repeat (first | (with_reducible exact lk_head) | (with_reducible refine lk_tail (by kernel_rfl) ?_))) (by with_unfolding_all rfl) ?_
        with_reducible refine WE.localA (by kernel_rfl) (by kernel_rfl) (by walk_at "lk") ?_
        with_reducible refine WSub.sdict (by with_unfolding_all (first | exact fun _ _ => rfl | exact fun _ _ _ => rfl)) (by walk_at "hp") (by with_reducible assumption) ?_
        with_reducible refine WSt.localA (by kernel_rfl) ?_
        with_reducible refine WSs.cons ?_
        with_reducible refine WS.expr (by with_unfolding_all (first | exact fun _ _ => rfl | exact fun _ _ _ => rfl)) ?_
        with_reducible refine WE.method (by with_unfolding_all (first | exact fun _ _ => rfl | exact fun _ _ _ => rfl)) rfl rfl rfl ?_
        with_reducible refine WE.sub ?_
        with_reducible refine WE.attr (by with_unfolding_all (first | exact fun _ _ => rfl | exact fun _ _ _ => rfl)) ?_
        with_reducible refine WE.localA (by kernel_rfl) (by kernel_rfl) (by walk_at "lk") ?_
        with_reducible refine WGet.inst (by walk_at "hp") (by kernel_rfl) (by repeat (first | (with_reducible exact lk_head) | (with_reducible refine lk_tail (by kernel_rfl) ?_))) (by with_unfolding_all rfl) ?_
        with_reducible refine WE.localA (by kernel_rfl) (by kernel_rfl) (by walk_at "lk") ?_
        with_reducible refine WSub.sdict (by with_unfolding_all (first | exact fun _ _ => rfl | exact fun _ _ _ => rfl)) (by walk_at "hp") (by with_reducible assumption) ?_
        with_reducible refine WM.inst (by walk_at "hp") ms_Wheel_rest (by kernel_rfl) ?_
        with_reducible refine And.intro (Callee.meth ms_Wheel_rest) ?_
        with_reducible refine WEs.cons rfl ?_
        with_reducible refine WE.localA (by kernel_rfl) (by kernel_rfl) (by walk_at "lk") ?_
        with_reducible refine WEs.nil ?_
        rw [← hy]
        refine WCall.of_fn (rest_c hwu hj2 fun σ3 h3 o3 => ?_)
        have hh3 := U2.h.one (t' := { u with past := u.past, l := u.l.set j2 { y with ready := false } }) hu rfl rfl rfl h3 o3
        have hin : y.name ∈ tm.map (·.name) := by rw [← U2.s.names, hy]; exact List.mem_map.mpr ⟨t', hmt', rfl⟩
        have U3 : Up σ σ3 H dw da tm (tm'.set k2 { u with past := u.past, l := u.l.set j2 { y with ready := false } }) ab (fun n b => if n = x.name then false else b) rested := ⟨Upd.trans (g := rested) (fun _ _ => rfl) U2.u (Upd.set hu hj2), hh3, U2.s.trans (Same.set hu ⟨rfl, rfl, rfl, rfl, set_nsh (y := { y with ready := false }) hj2 rfl rfl⟩), U2.hd.trans (Hands.team hu hj2 hin), fun a t' o q m1 m100 => o3.at (U2.kp a t' o q m1 m100) (by walk_at "om")⟩
        with_reducible refine WSs.cons ?_
        with_reducible refine WS.assign (by with_unfolding_all (first | exact fun _ _ => rfl | exact fun _ _ _ => rfl)) ?_
        with_reducible refine WE.localA (by kernel_rfl) (by kernel_rfl) (by walk_at "lk") ?_
        with_reducible refine WSt.localA (by kernel_rfl) ?_
        with_reducible refine WSs.nil ?_
        refine ⟨k2, lt2, _, { u with past := u.past, l := u.l.set j2 { y with ready := false } }, U3, ?_, List.getElem?_set_self (List.getElem?_eq_some_iff.mp hu).1, ?_, ?_, by walk_at "lk", by walk_at "lk"⟩
        · refine link_set lk' tr' U2.h.an U2.h.tn hu hj2 hwu.nn (y := { y with ready := false }) rfl (fun k3 n3 => ⟨n3, ?_⟩) fun k3 t3 h3 e3 _ _ => ?_
          · by_cases q : k3 = kk
            · exact .inr ⟨t', by rw [q]; exact tk', hy.symm⟩
            · exact .inl q
          · have e4 := nodup_at U2.h.tn h3 tk' (by rw [e3, hy])
            subst e4
            have : t3 = t' := Option.some.inj (h3.symm.trans tk')
            rw [this, har]
        · by_cases k20 : k2 = 0
          · exact .inl k20
          · obtain ⟨k5, u5, j5, y5, lt5, hu5, hab5, hj5, hy5⟩ := tr'.up k2 u hu (Nat.pos_of_ne_zero k20)
            refine .inr ⟨k5, u5, j5, y5, lt5, by rw [List.getElem?_set_ne (Nat.ne_of_gt lt5)]; exact hu5, hab5, hj5, hy5, ?_⟩
            rw [lk' k2 u k5 u5 j5 y5 hu (Nat.ne_of_lt lt2) hab5 hu5 hj5 hy5]
            exact anyR_mem hj2 hyr
        · intro v hv
          rcases mem_set_or hv with rfl | ⟨i, _, hi⟩
          · rw [List.length_set]; exact tl' u hmu
          · exact tl' v (List.mem_of_getElem? hi)
def dealtT (t : Team) (j : Nat) (x : Shr) : Team := { t with past := x.clock, l := t.l.set j (dealt x) }
/-- a deal: from the team k on, the names p, and the teams after it -/
inductive Deal : List Team → Nat → List Str → List Team → Prop
  | hand {tm k t j x} : tm[k]? = some t → t.l[j]? = some x → pick t.l Option.none = some x → x.name ∉ tm.map (·.name) → Deal tm k [x.name] (tm.set k (dealtT t j x))
  | team {tm k t j x k' t' p tm'} : tm[k]? = some t → t.l[j]? = some x → pick t.l Option.none = some x → tm[k']? = some t' → t'.name = x.name → Deal (tm.set k (dealtT t j x)) k' p tm' → Deal tm k (x.name :: p) tm'
theorem link_clock {tm : List Team} {ab : List (Str × Str)} (lk : Link tm ab fun _ => False) {k j : Nat} {t : Team} {x y : Shr} {p : Int} (hk : tm[k]? = some t) (hj : t.l[j]? = some x) (hy : y.name = x.name) (hr : y.ready = x.ready) : Link (tm.set k { t with past := p, l := t.l.set j y }) ab fun _ => False := by
  have at_ : ∀ (i : Nat) (u : Team), (tm.set k { t with past := p, l := t.l.set j y })[i]? = some u → ∃ v : Team, tm[i]? = some v ∧ v.name = u.name ∧ anyR u.l = anyR v.l ∧ ∀ (m : Nat) (z : Shr), u.l[m]? = some z → ∃ z' : Shr, v.l[m]? = some z' ∧ z'.name = z.name ∧ z'.ready = z.ready := fun i u hu => by
    by_cases q : k = i
    · subst q
      rw [List.getElem?_set_self (List.getElem?_eq_some_iff.mp hk).1] at hu
      have := Option.some.inj hu
      subst this
      refine ⟨t, hk, rfl, anyR_same hj hr, fun m z hz => ?_⟩
      have hz' : (t.l.set j y)[m]? = some z := hz
      by_cases qm : j = m
      · subst qm
        rw [List.getElem?_set_self (List.getElem?_eq_some_iff.mp hj).1] at hz'
        have := Option.some.inj hz'
        subst this
        exact ⟨x, hj, hy.symm, hr.symm⟩
      · rw [List.getElem?_set_ne qm] at hz'
        exact ⟨z, hz', rfl, rfl⟩
    · rw [List.getElem?_set_ne q] at hu
      exact ⟨u, hu, rfl, rfl, fun m z hz => ⟨z, hz, rfl, rfl⟩⟩
  intro k3 t3 k4 t4 i z h3 _ h34 h4 hi hz
  obtain ⟨v3, a1, a2, a3, _⟩ := at_ k3 t3 h3
  obtain ⟨v4, b1, b2, _, b4⟩ := at_ k4 t4 h4
  obtain ⟨z', c1, c2, c3⟩ := b4 i z hi
  rw [a3, ← c3]
  exact lk k3 v3 k4 v4 i z' a1 (fun q => q) (by rw [a2, b2]; exact h34) b1 c1 (by rw [c2, hz, a2])
def ShT (tm : List Team) : Prop := ∀ t ∈ tm, t.l.length ≤ 1000000 ∧ ∀ x ∈ t.l, 1 ≤ x.share ∧ x.share ≤ 12
theorem ShT.set {tm : List Team} (h : ShT tm) {k j : Nat} {t : Team} {x y : Shr} {p : Int} (hk : tm[k]? = some t) (hj : t.l[j]? = some x) (hy : y.share = x.share) : ShT (tm.set k { t with past := p, l := t.l.set j y }) := fun u hu => by
  rcases mem_set_or hu with rfl | ⟨i, _, hi⟩
  · obtain ⟨h1, h2⟩ := h t (List.mem_of_getElem? hk)
    refine ⟨by rw [List.length_set]; exact h1, fun z hz => ?_⟩
    rcases mem_set_or hz with rfl | ⟨m, _, hm⟩
    · rw [hy]; exact h2 x (List.mem_of_getElem? hj)
    · exact h2 z (List.mem_of_getElem? hm)
  · exact h u (List.mem_of_getElem? hi)
/-- what a deal may change: the wheels of the house, by their tags -/
def KpT (gs : List Nat) (σ σ' : Hp) : Prop := ∀ a t o, σ a = some (t, o) → t ∉ gs → σ' a = some (t, o)
theorem gs_mem {tm tm1 : List Team} (s : Same tm tm1) {k : Nat} {u : Team} (hu : tm1[k]? = some u) : u.g ∈ tm.map (·.g) := by
  have hlt : k < tm.length := by rw [← s.len]; exact (List.getElem?_eq_some_iff.mp hu).1
  obtain ⟨t2, h2, _, _, _, g2, _⟩ := s.at_ k tm[k] (List.getElem?_eq_getElem hlt)
  have : u = t2 := Option.some.inj (hu.symm.trans h2)
  rw [this, g2]
  exact List.mem_map.mpr ⟨_, List.getElem_mem hlt, rfl⟩
theorem KpT.kph {σ σ' : Hp} {H dw da : Nat} {tm : List Team} {ab : List (Str × Str)} (h : HouseD σ H dw da tm ab) (k : KpT (tm.map (·.g)) σ σ') : KpH σ σ' := fun a t o q m1 m100 => k a t o q fun hm => by
  obtain ⟨u, hu, e⟩ := List.mem_map.mp hm
  have := h.gg u hu
  walk_at "om"
theorem deal_noneT {H dw da : Nat} {tm : List Team} {ab : List (Str × Str)} {t : Team} (h : HouseD σ H dw da tm ab) (tr : Tree tm ab) (hs : ShT tm) (ht : tm[0]? = some t) (ha : anyR t.l = false)
    (hq : ∀ D σ', HouseD σ' H dw da tm ab → KpT (tm.map (·.g)) σ σ' → σ' D = some (9, .list []) → Q (.ref D) σ') : WFn (cx w mean mg mb) ⟨n + 4, true, sc⟩ m_House_deal [.ref H] ρ Q X σ := by
  have hmt := List.mem_of_getElem? ht
  have etop : t.name = "" := by
    obtain ⟨t2, e1, e2⟩ := tr.root
    have : t = t2 := Option.some.inj (ht.symm.trans e1)
    rw [this]; exact e2
  refine WFn.fn1 (p1 := "self") ⟨⟨_, _, _, _, _, _, _, _, _, _, _, _, _, (rfl : (Mine.hd.heap_39 w.params).lookup m_House_deal = _), by kernel_rfl, us1 fun _ => rfl⟩, by kernel_rfl⟩ ?_
  with_reducible refine WSs.cons ?_
  with_reducible refine WS.assign (by with_unfolding_all (first | exact fun _ _ => rfl | exact fun _ _ _ => rfl)) ?_
  refine WE.list 9 ?_
  with_reducible refine WEs.nil ?_
  refine ⟨by simp, fun F hF => ?_⟩
  have h1 := h.ext (σ' := σ.put F 9 (.list [])) fun a p q => Hp.new hF.none q
  have k1 : KpT (tm.map (·.g)) σ (σ.put F 9 (.list [])) := fun a t' o q _ => Hp.new hF.none q
  generalize σ.put F 9 (.list []) = σ1 at h1 k1 ⊢
  clear hF
  with_reducible refine WSt.localA (by kernel_rfl) ?_
  with_reducible refine WSs.cons ?_
  with_reducible refine WS.assign (by with_unfolding_all (first | exact fun _ _ => rfl | exact fun _ _ _ => rfl)) ?_
  with_reducible refine WE.globalA (by kernel_rfl) g_TOP ?_
  with_reducible refine WSt.localA (by kernel_rfl) ?_
  with_reducible refine WSs.cons ?_
  refine WS.while (fun kk ρ' σ' => σ' = σ1 ∧ ρ' "self" = some (.ref H) ∧ ρ' "team" = some (.str t.name)) 0 ⟨rfl, by walk_at "lk", by rw [etop]; walk_at "lk"⟩ ?_
  rintro kk ρ' σ' ⟨rfl, r0, r1⟩
  have hH := h1.hou
  have hd := h1.dws
  have hgt := getK_team h1 hmt
  have hwt := h1.whl t hmt
  have hW : σ' t.W = some (t.g, .inst a_Wheel [("past", .int t.past), ("sharers", .ref t.d)]) := hwt.whl
  have hgg := h1.gg t hmt
  with_reducible refine WT.cmp1 rfl ?_
  with_reducible refine WE.localA (by kernel_rfl) (by kernel_rfl) (by walk_at "lk") ?_
  with_reducible refine WE.attr (by with_unfolding_all (first | exact fun _ _ => rfl | exact fun _ _ _ => rfl)) ?_
  with_reducible refine WE.localA (by kernel_rfl) (by kernel_rfl) (by walk_at "lk") ?_
  with_reducible refine WGet.inst (by walk_at "hp") (by kernel_rfl) (by repeat (first | (with_reducible exact lk_head) | (with_reducible refine lk_tail (by kernel_rfl) ?_))) (by with_unfolding_all rfl) ?_
  with_reducible refine WC.inS_t (by walk_at "hp") (by with_reducible assumption) ?_
  with_reducible refine WTr.bool ?_
  with_reducible refine if_tt ?_
  with_reducible refine WSs.cons ?_
  with_reducible refine WS.assign (by with_unfolding_all (first | exact fun _ _ => rfl | exact fun _ _ _ => rfl)) ?_
  with_reducible refine WE.method (by with_unfolding_all (first | exact fun _ _ => rfl | exact fun _ _ _ => rfl)) rfl rfl rfl ?_
  with_reducible refine WE.sub ?_
  with_reducible refine WE.attr (by with_unfolding_all (first | exact fun _ _ => rfl | exact fun _ _ _ => rfl)) ?_
  with_reducible refine WE.localA (by kernel_rfl) (by kernel_rfl) (by walk_at "lk") ?_
  with_reducible refine WGet.inst (by walk_at "hp") (by kernel_rfl) (by repeat (first | (with_reducible exact lk_head) | (with_reducible refine lk_tail (by kernel_rfl) ?_))) (by with_unfolding_all rfl) ?_
  with_reducible refine WE.localA (by kernel_rfl) (by kernel_rfl) (by walk_at "lk") ?_
  with_reducible refine WSub.sdict (by with_unfolding_all (first | exact fun _ _ => rfl | exact fun _ _ _ => rfl)) (by walk_at "hp") (by with_reducible assumption) ?_
  with_reducible refine WM.inst (by walk_at "hp") ms_Wheel_turn (by kernel_rfl) ?_
  with_reducible refine And.intro (Callee.meth ms_Wheel_turn) ?_
  with_reducible refine WEs.nil ?_
  refine WCall.of_fn (turn_none_c hwt (hs t hmt).1 (pick_no ha) fun σ2 h2 o2 => ?_)
  have hh := h1.one (t' := t) ht rfl rfl rfl h2 o2
  rw [set_same ht] at hh
  with_reducible refine WSt.localA (by kernel_rfl) ?_
  with_reducible refine WSs.cons ?_
  with_reducible refine WS.ite ?_
  with_reducible refine WT.cmp1 rfl ?_
  with_reducible refine WE.localA (by kernel_rfl) (by kernel_rfl) (by walk_at "lk") ?_
  with_reducible refine WE.none ?_
  with_reducible refine WC.isNN ?_
  with_reducible refine WTr.bool ?_
  with_reducible refine if_tt ?_
  with_reducible refine WSs.cons ?_
  with_reducible refine WS.ret ?_
  refine WE.list 9 ?_
  with_reducible refine WEs.nil ?_
  refine ⟨by simp, fun D hD => ?_⟩
  skip
  exact hq D _ (hh.ext fun a p q => Hp.new hD.none q) (fun a t' o q m1 => Hp.new hD.none (o2.at (k1 a t' o q m1) fun e => m1 (e ▸ List.mem_map.mpr ⟨t, hmt, rfl⟩))) Hp.self
theorem deal_cT {H dw da : Nat} {tm : List Team} {ab : List (Str × Str)} {t : Team} (h : HouseD σ H dw da tm ab) (tr : Tree tm ab) (lk : Link tm ab fun _ => False) (hs : ShT tm) (ht : tm[0]? = some t) (ha : anyR t.l = true) (hz : tm.length ≤ 100000)
    (hq : ∀ D p tm' σ', HouseD σ' H dw da tm' ab → KpT (tm.map (·.g)) σ σ' → σ' D = some (9, .list (p.map .str)) → Deal tm 0 p tm' → Same tm tm' → Link tm' ab (fun _ => False) → ShT tm' → Q (.ref D) σ') : WFn (cx w mean mg mb) ⟨n + 4, true, sc⟩ m_House_deal [.ref H] ρ Q X σ := by
  have hmt := List.mem_of_getElem? ht
  have etop : t.name = "" := by
    obtain ⟨t2, e1, e2⟩ := tr.root
    have : t = t2 := Option.some.inj (ht.symm.trans e1)
    rw [this]; exact e2
  refine WFn.fn1 (p1 := "self") ⟨⟨_, _, _, _, _, _, _, _, _, _, _, _, _, (rfl : (Mine.hd.heap_39 w.params).lookup m_House_deal = _), by kernel_rfl, us1 fun _ => rfl⟩, by kernel_rfl⟩ ?_
  with_reducible refine WSs.cons ?_
  with_reducible refine WS.assign (by with_unfolding_all (first | exact fun _ _ => rfl | exact fun _ _ _ => rfl)) ?_
  refine WE.list 9 ?_
  with_reducible refine WEs.nil ?_
  refine ⟨by simp, fun F hF => ?_⟩
  have h1 := h.ext (σ' := σ.put F 9 (.list [])) fun a p q => Hp.new hF.none q
  have k1 : KpT (tm.map (·.g)) σ (σ.put F 9 (.list [])) := fun a t' o q _ => Hp.new hF.none q
  have f1 : (σ.put F 9 (.list [])) F = some (9, .list []) := Hp.self
  have nF : σ F = Option.none := hF.none
  generalize σ.put F 9 (.list []) = σ1 at h1 k1 f1 ⊢
  clear hF
  with_reducible refine WSt.localA (by kernel_rfl) ?_
  with_reducible refine WSs.cons ?_
  with_reducible refine WS.assign (by with_unfolding_all (first | exact fun _ _ => rfl | exact fun _ _ _ => rfl)) ?_
  with_reducible refine WE.globalA (by kernel_rfl) g_TOP ?_
  with_reducible refine WSt.localA (by kernel_rfl) ?_
  with_reducible refine WSs.cons ?_
  refine WS.while (fun m ρ' σ' => ∃ tm1 pre, HouseD σ' H dw da tm1 ab ∧ KpT (tm.map (·.g)) σ σ' ∧ Same tm tm1 ∧ Link tm1 ab (fun _ => False) ∧ ShT tm1 ∧ σ' F = some (9, .list (pre.map .str)) ∧ pre.length ≤ 100000 ∧ ρ' "self" = some (.ref H) ∧ ρ' "found" = some (.ref F) ∧ ((∃ (k : Nat) (u : Team), tm1[k]? = some u ∧ anyR u.l = true ∧ ρ' "team" = some (.str u.name) ∧ m = tm.length - k ∧ pre.length ≤ k ∧ ∀ p tm', Deal tm1 k p tm' → Deal tm 0 (pre ++ p) tm') ∨ ∃ nm, ρ' "team" = some (.str nm) ∧ nm ∉ tm.map (·.name) ∧ Deal tm 0 pre tm1)) tm.length ⟨tm, [], h1, k1, Same.refl tm, lk, hs, f1, Nat.zero_le _, by walk_at "lk", by walk_at "lk", .inl ⟨0, t, ht, ha, by rw [etop]; walk_at "lk", rfl, Nat.zero_le _, fun p tm' d => d⟩⟩ ?_
  rintro m ρ' σ' ⟨tm1, pre, hh, kp, sm, lk1, hs1, hF, hpl, r0, r1, hor⟩
  have hH := hh.hou
  have hd := hh.dws
  have tr1 := tr.same sm
  rcases hor with ⟨k, u, hu, ar, r2, hm, hpk, hcont⟩ | ⟨nm, r2, hno, hdone⟩
  · have hmu := List.mem_of_getElem? hu
    have hgu := getK_team hh hmu
    have hwu := hh.whl u hmu
    have hWu : σ' u.W = some (u.g, .inst a_Wheel [("past", .int u.past), ("sharers", .ref u.d)]) := hwu.whl
    have hgg := hh.gg u hmu
    have hkl : k < tm.length := by rw [← sm.len]; exact (List.getElem?_eq_some_iff.mp hu).1
    obtain ⟨x, hx⟩ := Option.isSome_iff_exists.mp (pick_some (l := u.l) (f := Option.none) (.inl ar))
    obtain ⟨hxm, hxr⟩ : x ∈ u.l ∧ x.ready = true := by
      rcases pick_mem hx with q | q
      · exact q
      · exact nomatch q
    obtain ⟨j, hj⟩ := List.mem_iff_getElem?.mp hxm
    obtain ⟨s0, s1⟩ := (hs1 u hmu).2 x hxm
    have hnn : (MV.str x.name).isNone = false := rfl
    with_reducible refine WT.cmp1 rfl ?_
    with_reducible refine WE.localA (by kernel_rfl) (by kernel_rfl) (by walk_at "lk") ?_
    with_reducible refine WE.attr (by with_unfolding_all (first | exact fun _ _ => rfl | exact fun _ _ _ => rfl)) ?_
    with_reducible refine WE.localA (by kernel_rfl) (by kernel_rfl) (by walk_at "lk") ?_
    with_reducible refine WGet.inst (by walk_at "hp") (by kernel_rfl) (by repeat (first | (with_reducible exact lk_head) | (with_reducible refine lk_tail (by kernel_rfl) ?_))) (by with_unfolding_all rfl) ?_
    with_reducible refine WC.inS_t (by walk_at "hp") (by with_reducible assumption) ?_
    with_reducible refine WTr.bool ?_
    with_reducible refine if_tt ?_
    with_reducible refine WSs.cons ?_
    with_reducible refine WS.assign (by with_unfolding_all (first | exact fun _ _ => rfl | exact fun _ _ _ => rfl)) ?_
    with_reducible refine WE.method (by with_unfolding_all (first | exact fun _ _ => rfl | exact fun _ _ _ => rfl)) rfl rfl rfl ?_
    with_reducible refine WE.sub ?_
    with_reducible refine WE.attr (by with_unfolding_all (first | exact fun _ _ => rfl | exact fun _ _ _ => rfl)) ?_
    with_reducible refine WE.localA (by kernel_rfl) (by kernel_rfl) (by walk_at "lk") ?_
    with_reducible refine WGet.inst (by walk_at "hp") (by kernel_rfl) (by repeat (first | (with_reducible exact lk_head) | (with_reducible refine lk_tail (by kernel_rfl) ?_))) (by with_unfolding_all rfl) ?_
    with_reducible refine WE.localA (by kernel_rfl) (by kernel_rfl) (by walk_at "lk") ?_
    with_reducible refine WSub.sdict (by with_unfolding_all (first | exact fun _ _ => rfl | exact fun _ _ _ => rfl)) (by walk_at "hp") (by with_reducible assumption) ?_
    with_reducible refine WM.inst (by walk_at "hp") ms_Wheel_turn (by kernel_rfl) ?_
    with_reducible refine And.intro (Callee.meth ms_Wheel_turn) ?_
    with_reducible refine WEs.nil ?_
    refine WCall.of_fn (turn_c hwu (hs1 u hmu).1 hj hx s0 s1 fun σ2 h2 o2 => ?_)
    have hh2 := hh.one (t' := dealtT u j x) hu rfl rfl rfl h2 o2
    have k2 : KpT (tm.map (·.g)) σ σ2 := fun a t' o q m1 => o2.at (kp a t' o q m1) fun e => m1 (e ▸ gs_mem sm hu)
    have hF2 := o2.at hF (by walk_at "om")
    have sm2 : Same tm (tm1.set k (dealtT u j x)) := sm.trans (Same.set hu ⟨rfl, rfl, rfl, rfl, set_nsh (y := dealt x) hj rfl rfl⟩)
    have lk2 : Link (tm1.set k (dealtT u j x)) ab fun _ => False := link_clock lk1 (y := dealt x) hu hj rfl rfl
    have hs2 : ShT (tm1.set k (dealtT u j x)) := hs1.set (y := dealt x) hu hj rfl
    with_reducible refine WSt.localA (by kernel_rfl) ?_
    with_reducible refine WSs.cons ?_
    with_reducible refine WS.ite ?_
    with_reducible refine WT.cmp1 rfl ?_
    with_reducible refine WE.localA (by kernel_rfl) (by kernel_rfl) (by walk_at "lk") ?_
    with_reducible refine WE.none ?_
    with_reducible refine WC.isNS ?_
    with_reducible refine WTr.bool ?_
    with_reducible refine if_ff ?_
    with_reducible refine WSs.nil ?_
    with_reducible refine WSs.cons ?_
    with_reducible refine WS.expr (by with_unfolding_all (first | exact fun _ _ => rfl | exact fun _ _ _ => rfl)) ?_
    with_reducible refine WE.method (by with_unfolding_all (first | exact fun _ _ => rfl | exact fun _ _ _ => rfl)) rfl rfl rfl ?_
    with_reducible refine WE.localA (by kernel_rfl) (by kernel_rfl) (by walk_at "lk") ?_
    refine WM.listAppend hF2 ?_
    with_reducible refine And.intro (Callee.con rfl) ?_
    with_reducible refine WEs.cons rfl ?_
    with_reducible refine WE.localA (by kernel_rfl) (by kernel_rfl) (by walk_at "lk") ?_
    with_reducible refine WEs.nil ?_
    refine WCall.append hF2 (by rw [List.length_map]; walk_at "om") ?_
    have hh3 : HouseD (σ2.put F 9 (.list (pre.map .str ++ [.str x.name]))) H dw da (tm1.set k (dealtT u j x)) ab := hh2.keep (fun q => Hp.tag hF2 (by decide) q) (fun q m100 => Hp.tag hF2 (by walk_at "om") q)
    have hF3 : (σ2.put F 9 (.list (pre.map .str ++ [.str x.name]))) F = some (9, .list ((pre ++ [x.name]).map .str)) := by rw [List.map_append]; exact Hp.self
    have k3 : KpT (tm.map (·.g)) σ (σ2.put F 9 (.list (pre.map .str ++ [.str x.name]))) := fun a t' o q m1 => Hp.ne (fun e => by rw [e, nF] at q; exact nomatch q) (k2 a t' o q m1)
    generalize σ2.put F 9 (.list (pre.map .str ++ [.str x.name])) = σ3 at hh3 hF3 k3 ⊢
    with_reducible refine WSs.cons ?_
    with_reducible refine WS.assign (by with_unfolding_all (first | exact fun _ _ => rfl | exact fun _ _ _ => rfl)) ?_
    with_reducible refine WE.localA (by kernel_rfl) (by kernel_rfl) (by walk_at "lk") ?_
    with_reducible refine WSt.localA (by kernel_rfl) ?_
    with_reducible refine WSs.nil ?_
    by_cases hin : x.name ∈ tm1.map (·.name)
    · obtain ⟨v, hv, ev⟩ := List.mem_map.mp hin
      obtain ⟨k', hk'⟩ := List.mem_iff_getElem?.mp hv
      have hab := tr1.mem k u j x hu hj
      have kpos : k < k' := by
        have : 0 < k' := Nat.pos_of_ne_zero fun q => by
          subst q
          obtain ⟨t2, e1, e2⟩ := tr1.root
          have : v = t2 := Option.some.inj (hk'.symm.trans e1)
          subst this
          exact tr1.top (List.mem_map.mpr ⟨_, hab, by rw [← ev, e2]⟩)
        obtain ⟨k5, u5, j5, y5, lt5, hu5, _, hj5, hy5⟩ := tr1.up k' v hk' this
        have := uniq tr1 hh.an hh.tn hu hj hu5 hj5 (by rw [hy5, ev])
        walk_at "om"
      have hk2 : (tm1.set k (dealtT u j x))[k']? = some v := by rw [List.getElem?_set_ne (Nat.ne_of_lt kpos)]; exact hk'
      have hkl' : k' < tm.length := by rw [← sm.len]; exact (List.getElem?_eq_some_iff.mp hk').1
      have av : anyR v.l = true := by rw [← lk1 k' v k u j x hk' (fun q => q) (by rw [ev]; exact hab) hu hj ev.symm]; exact hxr
      exact ⟨tm.length - k', by walk_at "om", _, pre ++ [x.name], hh3, k3, sm2, lk2, hs2, hF3, by rw [List.length_append]; simp; walk_at "om", by walk_at "lk", by walk_at "lk", .inl ⟨k', v, hk2, av, by rw [ev]; walk_at "lk", rfl, by rw [List.length_append]; simp; walk_at "om", fun p tm' d => by
        rw [List.append_assoc]
        exact hcont _ _ (Deal.team hu hj hx hk' ev d)⟩⟩
    · refine ⟨0, by walk_at "om", _, pre ++ [x.name], hh3, k3, sm2, lk2, hs2, hF3, by rw [List.length_append]; simp; walk_at "om", by walk_at "lk", by walk_at "lk", .inr ⟨x.name, by walk_at "lk", by rw [← sm.names]; exact hin, hcont _ _ (Deal.hand hu hj hx hin)⟩⟩
  · have hg := getK_noteam (tm := tm1) (nm := nm) (by rw [sm.names]; exact hno)
    with_reducible refine WT.cmp1 rfl ?_
    with_reducible refine WE.localA (by kernel_rfl) (by kernel_rfl) (by walk_at "lk") ?_
    with_reducible refine WE.attr (by with_unfolding_all (first | exact fun _ _ => rfl | exact fun _ _ _ => rfl)) ?_
    with_reducible refine WE.localA (by kernel_rfl) (by kernel_rfl) (by walk_at "lk") ?_
    with_reducible refine WGet.inst (by walk_at "hp") (by kernel_rfl) (by repeat (first | (with_reducible exact lk_head) | (with_reducible refine lk_tail (by kernel_rfl) ?_))) (by with_unfolding_all rfl) ?_
    with_reducible refine WC.inS_f (by walk_at "hp") (by with_reducible assumption) ?_
    with_reducible refine WTr.bool ?_
    with_reducible refine if_ff ?_
    with_reducible refine WSs.cons ?_
    with_reducible refine WS.ret ?_
    with_reducible refine WE.localA (by kernel_rfl) (by kernel_rfl) (by walk_at "lk") ?_
    exact hq F pre tm1 σ' hh kp hF hdone sm lk1 hs1
def coreT (t : Team) : Str × Int × List (Str × Int × Int × Bool) := (t.name, t.past, t.l.map core)
theorem coreT_names {tm tm' : List Team} (h : tm'.map coreT = tm.map coreT) : tm'.map (·.name) = tm.map (·.name) := by
  have := congrArg (List.map (·.1)) h
  rw [List.map_map, List.map_map] at this
  exact this
theorem make_houseF (g : Nat) (hg : 100 ≤ g) (hq : ∀ H dw da W d σ', σ H = Option.none → σ dw = Option.none → σ da = Option.none → HouseD σ' H dw da [⟨"", W, d, g, 0, []⟩] [] → Extd σ σ' → Q (.ref H) σ') : WFn (cx w mean mg mb) ⟨n + 4, true, sc⟩ a_House [] ρ Q X σ := by
  refine WFn.make 1 mi_House fun b hb hbn => ?_
  refine WFn.fn1 (p1 := "self") ⟨⟨_, _, _, _, _, _, _, _, _, _, _, _, _, (rfl : (Mine.hd.heap_39 w.params).lookup m_House_init = _), by kernel_rfl, us1 fun _ => rfl⟩, by kernel_rfl⟩ ?_
  with_reducible refine WSs.cons ?_
  with_reducible refine WS.setAttr (by with_unfolding_all (first | exact fun _ _ => rfl | exact fun _ _ _ => rfl)) ?_
  refine WE.dict1 1 fun dw hdw => ?_
  with_reducible refine WE.globalA (by kernel_rfl) g_TOP ?_
  with_reducible refine WE.call rfl rfl ?_
  with_reducible refine WE.globalA (by kernel_rfl) g_Wheel ?_
  with_reducible refine And.intro (Callee.cls mi_Wheel) ?_
  with_reducible refine WEs.nil ?_
  refine WCall.of_fn (make_wheelF g fun W d σ2 n1 n2 hw e2 => ?_)
  have hdw2 := e2 _ _ Hp.self
  have hb2 := e2 _ _ (Hp.new hdw.none Hp.self)
  refine ⟨_, rfl, hdw2, ?_⟩
  have hbd : b ≠ dw := fun q => by have := hdw.none; rw [← q, Hp.self] at this; exact nomatch this
  have e0 : Extd σ (σ2.put dw 1 (.sdict [("", .ref W)])) := fun a p q => Hp.ne (fun e => by have := hdw.none; rw [← e, Hp.new hbn q] at this; exact nomatch this) (e2 _ _ (Hp.new hdw.none (Hp.new hbn q)))
  have hw3 := hw.keep (σ' := σ2.put dw 1 (.sdict [("", .ref W)])) (Kpt.put hdw2 (by walk_at "om"))
  have hb3 : (σ2.put dw 1 (.sdict [("", .ref W)])) b = _ := Hp.ne hbd hb2
  have hd3 : (σ2.put dw 1 (.sdict [("", .ref W)])) dw = some (1, .sdict [("", .ref W)]) := Hp.self
  generalize σ2.put dw 1 (.sdict [("", .ref W)]) = σ3 at e0 hw3 hb3 hd3 ⊢
  with_reducible refine WE.localA (by kernel_rfl) (by kernel_rfl) (by walk_at "lk") ?_
  refine WSet.inst' (fs' := [("wheels", .ref dw)]) hb3 (by kernel_rfl) (by kernel_rfl) (by simp) ?_
  with_reducible refine WSs.cons ?_
  with_reducible refine WS.setAttr (by with_unfolding_all (first | exact fun _ _ => rfl | exact fun _ _ _ => rfl)) ?_
  refine WE.sdict 1 fun da hda => ?_
  have hbda : b ≠ da := fun q => by have := hda.none; rw [← q, Hp.self] at this; exact nomatch this
  have hdd : dw ≠ da := fun q => by have := hda.none; rw [← q, Hp.ne (Ne.symm hbd) hd3] at this; exact nomatch this
  with_reducible refine WE.localA (by kernel_rfl) (by kernel_rfl) (by walk_at "lk") ?_
  refine WSet.inst' (fs' := [("wheels", .ref dw), ("above", .ref da)]) (Hp.ne hbda Hp.self) (by kernel_rfl) (by kernel_rfl) (by simp) ?_
  with_reducible refine WSs.nil ?_
  refine ⟨rfl, ?_⟩
  have hg1 : g ≠ 1 := by walk_at "om"
  have ndw : σ dw = Option.none := by
    cases q : σ dw with
    | none => rfl
    | some p => have := hdw.none; rw [Hp.new hbn q] at this; exact nomatch this
  have nda : σ da = Option.none := by
    cases q : σ da with
    | none => rfl
    | some p =>
      have ne : da ≠ b := fun e => by rw [e, hbn] at q; exact nomatch q
      have := hda.none
      rw [Hp.ne ne (e0 _ _ q)] at this
      exact nomatch this
  refine hq b dw da W d _ hbn ndw nda ⟨Hp.self, Hp.ne (Ne.symm hbd) (Hp.ne hdd (Hp.ne (Ne.symm hbd) hd3)), Hp.ne (Ne.symm hbda) Hp.self, fun t ht => ?_, by simp, by simp, fun t ht => ?_, by simp, hdd⟩ fun a p q => ?_
  · rw [List.mem_singleton.mp ht]
    exact hw3.keep ⟨fun a o q => Hp.tag (Hp.ne hbda Hp.self) hg1 (Hp.new hda.none (Hp.tag hb3 hg1 q))⟩
  · rw [List.mem_singleton.mp ht]; exact hg
  · have ne : a ≠ b := fun e => by rw [e, hbn] at q; exact nomatch q
    exact Hp.ne ne (Hp.new hda.none (Hp.ne ne (e0 _ _ q)))
theorem copied_h (G : Nat) (hG : 100 ≤ G) {H dw da : Nat} {tm : List Team} {ab : List (Str × Str)} (h : HouseD σ H dw da tm ab) (tr0 : ∃ t : Team, tm[0]? = some t ∧ t.name = ("" : Str)) (hl : ∀ t ∈ tm, t.l.length ≤ 1000000) (htl : tm.length ≤ 1000) (hal : ab.length ≤ 1000)
    (hq : ∀ H' dw' da' tm' σ', HouseD σ' H' dw' da' tm' ab → tm'.map coreT = tm.map coreT → (∀ (k : Nat) (t : Team), tm'[k]? = some t → t.g = G + 2 + k) → Extd σ σ' → Q (.ref H') σ') : WFn (cx w mean mg mb) ⟨n + 5, true, sc⟩ m_House_copied [.ref H] ρ Q X σ := by
  have hH := h.hou
  have hd := h.dws
  have ha := h.das
  obtain ⟨t0, ht0, nt0⟩ := tr0
  have tn := h.tn
  refine WFn.fn1 (p1 := "self") ⟨⟨_, _, _, _, _, _, _, _, _, _, _, _, _, (rfl : (Mine.hd.heap_39 w.params).lookup m_House_copied = _), by kernel_rfl, us1 fun _ => rfl⟩, by kernel_rfl⟩ ?_
  with_reducible refine WSs.cons ?_
  with_reducible refine WS.assign (by with_unfolding_all (first | exact fun _ _ => rfl | exact fun _ _ _ => rfl)) ?_
  with_reducible refine WE.call rfl rfl ?_
  with_reducible refine WE.globalA (by kernel_rfl) g_House ?_
  with_reducible refine And.intro (Callee.cls mi_House) ?_
  with_reducible refine WEs.nil ?_
  refine WCall.of_fn (make_houseF G hG fun H' dw' da' W0 d0 σ1 nH ndw nda h1 e1 => ?_)
  have hH1 := e1 _ _ hH
  have hd1 := e1 _ _ hd
  have hH1' := h1.hou
  have hd1' := h1.dws
  have ha1' := h1.das
  have hdd := h1.dd
  with_reducible refine WSt.localA (by kernel_rfl) ?_
  with_reducible refine WSs.cons ?_
  with_reducible refine WS.for rfl (by with_unfolding_all (first | exact fun _ _ => rfl | exact fun _ _ _ => rfl)) ?_
  with_reducible refine WE.call rfl rfl ?_
  with_reducible refine WE.globalA (by kernel_rfl) g_list ?_
  with_reducible refine And.intro (Callee.con rfl) ?_
  with_reducible refine WEs.cons rfl ?_
  with_reducible refine WE.attr (by with_unfolding_all (first | exact fun _ _ => rfl | exact fun _ _ _ => rfl)) ?_
  with_reducible refine WE.localA (by kernel_rfl) (by kernel_rfl) (by walk_at "lk") ?_
  with_reducible refine WGet.inst (by walk_at "hp") (by kernel_rfl) (by repeat (first | (with_reducible exact lk_head) | (with_reducible refine lk_tail (by kernel_rfl) ?_))) (by with_unfolding_all rfl) ?_
  with_reducible refine WEs.nil ?_
  refine WCall.listKeys 9 rfl hd1 (by simp [tents]; walk_at "om") fun b hb => ?_
  refine ⟨_, _, Iterable.list (ListAt.own Hp.self), ?_⟩
  refine WFor.byIdxO (fun j ρ' σ' => (∃ tm1 : List Team, σ' dw' = some (1, .sdict (if j = 0 then [("", .ref W0)] else tents tm1)) ∧ tm1.length = j ∧ tm1.map coreT = (tm.take j).map coreT ∧ ∀ (k : Nat) (t : Team), tm1[k]? = some t → t.g = G + 2 + k ∧ WheelD σ' t.W t.d t.g t.past t.l) ∧ σ' H' = some (1, .inst a_House [("wheels", .ref dw'), ("above", .ref da')]) ∧ σ' da' = some (1, .sdict []) ∧ Extd σ σ' ∧ σ' b = some (9, .list ((tents tm).map fun p => .str p.1)) ∧ ρ' "self" = some (.ref H) ∧ ρ' "found" = some (.ref H')) ?_ ?_ ?_
  · exact ⟨⟨[], by rw [if_pos rfl]; exact Hp.new hb.none hd1', rfl, rfl, fun k t q => by simp at q⟩, Hp.new hb.none hH1', Hp.new hb.none ha1', fun a p q => Hp.new hb.none (e1 _ _ q), Hp.self, by walk_at "lk", by walk_at "lk"⟩
  · clear hH1 hd1 hH1' hd1' ha1' hb h1 e1
    rintro j v ρ' σ' hv ⟨⟨tm1, hdw, htl1, hct, hwh⟩, hHH, hda, e, hb, r0, r1⟩
    refine ⟨ListAt.own hb, ?_⟩
    intro KL hKL
    obtain ⟨t, ht, rfl⟩ : ∃ t : Team, tm[j]? = some t ∧ v = .str t.name := by
      unfold tents at hv
      rw [List.map_map, List.getElem?_map] at hv
      obtain ⟨t, h1, h2⟩ := Option.map_eq_some_iff.mp hv
      exact ⟨t, h1, h2.symm⟩
    have hmt := List.mem_of_getElem? ht
    have hjl : j < tm.length := (List.getElem?_eq_some_iff.mp ht).1
    have hh := h.ext e
    have hH2 := hh.hou
    have hd2 := hh.dws
    have hgt := getK_team hh hmt
    have hwt := hh.whl t hmt
    have hW : σ' t.W = some (t.g, .inst a_Wheel [("past", .int t.past), ("sharers", .ref t.d)]) := hwt.whl
    with_reducible refine WSt.localA (by kernel_rfl) ?_
    with_reducible refine WSs.cons ?_
    with_reducible refine WS.setItem (by with_unfolding_all (first | exact fun _ _ => rfl | exact fun _ _ _ => rfl)) ?_
    with_reducible refine WE.method (by with_unfolding_all (first | exact fun _ _ => rfl | exact fun _ _ _ => rfl)) rfl rfl rfl ?_
    with_reducible refine WE.sub ?_
    with_reducible refine WE.attr (by with_unfolding_all (first | exact fun _ _ => rfl | exact fun _ _ _ => rfl)) ?_
    with_reducible refine WE.localA (by kernel_rfl) (by kernel_rfl) (by walk_at "lk") ?_
    with_reducible refine WGet.inst (by walk_at "hp") (by kernel_rfl) (by repeat (first | (with_reducible exact lk_head) | (with_reducible refine lk_tail (by kernel_rfl) ?_))) (by with_unfolding_all rfl) ?_
    with_reducible refine WE.localA (by kernel_rfl) (by kernel_rfl) (by walk_at "lk") ?_
    with_reducible refine WSub.sdict (by with_unfolding_all (first | exact fun _ _ => rfl | exact fun _ _ _ => rfl)) (by walk_at "hp") (by with_reducible assumption) ?_
    with_reducible refine WM.inst (by walk_at "hp") ms_Wheel_copied (by kernel_rfl) ?_
    with_reducible refine And.intro (Callee.meth ms_Wheel_copied) ?_
    with_reducible refine WEs.nil ?_
    refine WCall.of_fn (copied_c (G + 2 + j) hwt (hl t hmt) fun W' d' l' σ3 n' w' c' e' => ?_)
    have hH3 := e' _ _ hHH
    have hdw3 := e' _ _ hdw
    with_reducible refine WE.attr (by with_unfolding_all (first | exact fun _ _ => rfl | exact fun _ _ _ => rfl)) ?_
    with_reducible refine WE.localA (by kernel_rfl) (by kernel_rfl) (by walk_at "lk") ?_
    with_reducible refine WGet.inst (by walk_at "hp") (by kernel_rfl) (by repeat (first | (with_reducible exact lk_head) | (with_reducible refine lk_tail (by kernel_rfl) ?_))) (by with_unfolding_all rfl) ?_
    with_reducible refine WE.localA (by kernel_rfl) (by kernel_rfl) (by walk_at "lk") ?_
    refine WPut.sdict hdw3 (by split <;> simp [tents]; walk_at "om") ?_
    have ep : putK (if j = 0 then ([("", .ref W0)] : List (Str × MV)) else tents tm1) t.name (.ref W') = tents (tm1 ++ [⟨t.name, W', d', G + 2 + j, t.past, l'⟩]) := by
      by_cases q : j = 0
      · subst q
        have : tm1 = [] := List.eq_nil_of_length_eq_zero htl1
        subst this
        have : t = t0 := Option.some.inj (ht.symm.trans ht0)
        subst this
        rw [if_pos rfl, nt0]
        rfl
      · rw [if_neg q, putK_no]
        · unfold tents; rw [List.map_append]; rfl
        · rw [tents_names, coreT_names hct]
          intro w
          obtain ⟨y, hy, ey⟩ := List.mem_map.mp w
          obtain ⟨i, hi⟩ := List.mem_iff_getElem?.mp hy
          have hij : i < j := by
            have := (List.getElem?_eq_some_iff.mp hi).1
            exact Nat.lt_of_lt_of_le this (List.length_take_le ..)
          rw [List.getElem?_take, if_pos hij] at hi
          exact Nat.ne_of_lt hij (nodup_at tn hi ht ey)
    rw [ep]
    with_reducible refine WSs.nil ?_
    refine hKL _ _ ⟨⟨tm1 ++ [⟨t.name, W', d', G + 2 + j, t.past, l'⟩], by rw [if_neg (Nat.succ_ne_zero j)]; exact Hp.self, by rw [List.length_append, htl1]; rfl, ?_, fun k u hu => ?_⟩, Hp.ne (fun q => ?_) hH3, Hp.ne (fun q => ?_) (e' _ _ hda), fun a p q => Hp.ne (fun e2 => by rw [e2, ndw] at q; exact nomatch q) (e' _ _ (e _ _ q)), Hp.tag hdw3 (by decide) (e' _ _ hb), by walk_at "lk", by walk_at "lk"⟩
    · rw [List.map_append, hct, List.take_add_one, ht, List.map_append]
      show _ ++ [coreT _] = _ ++ [coreT t]
      have : coreT ⟨t.name, W', d', G + 2 + j, t.past, l'⟩ = coreT t := by unfold coreT; dsimp only; rw [c']
      rw [this]
    · by_cases hk : k < tm1.length
      · rw [List.getElem?_append_left hk] at hu
        obtain ⟨g1, w1⟩ := hwh k u hu
        exact ⟨g1, (w1.keep ⟨fun a o q => e' _ _ q⟩).keep (Kpt.put hdw3 (by walk_at "om"))⟩
      · have hkl := (List.getElem?_eq_some_iff.mp hu).1
        rw [List.length_append] at hkl
        simp at hkl
        have hk2 : k = tm1.length := by walk_at "om"
        subst hk2
        rw [List.getElem?_append_right (Nat.le_refl _), Nat.sub_self] at hu
        have := Option.some.inj hu
        subst this
        exact ⟨by rw [htl1], w'.keep (Kpt.put hdw3 (by walk_at "om"))⟩
    · rw [q, hdw3] at hH3; exact nomatch hH3
    · exact hdd q.symm
  · clear hH1 hd1 hH1' hd1' ha1' hb h1 e1
    rintro ρ' σ' ⟨⟨tm1, hdw, htl1, hct, hwh⟩, hHH, hda, e, hb, r0, r1⟩
    refine ⟨ListAt.own hb, ?_⟩
    have el : ((tents tm).map fun p => MV.str p.1).length = tm.length := by simp [tents]
    rw [el] at hdw htl1 hct
    have tpos : tm.length ≠ 0 := by have := (List.getElem?_eq_some_iff.mp ht0).1; walk_at "om"
    rw [if_neg tpos] at hdw
    rw [List.take_length] at hct
    have hh := h.ext e
    have hH2 := hh.hou
    have ha2 := hh.das
    with_reducible refine WSs.cons ?_
    with_reducible refine WS.for rfl (by with_unfolding_all (first | exact fun _ _ => rfl | exact fun _ _ _ => rfl)) ?_
    with_reducible refine WE.call rfl rfl ?_
    with_reducible refine WE.globalA (by kernel_rfl) g_list ?_
    with_reducible refine And.intro (Callee.con rfl) ?_
    with_reducible refine WEs.cons rfl ?_
    with_reducible refine WE.attr (by with_unfolding_all (first | exact fun _ _ => rfl | exact fun _ _ _ => rfl)) ?_
    with_reducible refine WE.localA (by kernel_rfl) (by kernel_rfl) (by walk_at "lk") ?_
    with_reducible refine WGet.inst (by walk_at "hp") (by kernel_rfl) (by repeat (first | (with_reducible exact lk_head) | (with_reducible refine lk_tail (by kernel_rfl) ?_))) (by with_unfolding_all rfl) ?_
    with_reducible refine WEs.nil ?_
    refine WCall.listKeys 9 rfl ha2 (by simp [aents]; walk_at "om") fun b2 hb2 => ?_
    refine ⟨_, _, Iterable.list (ListAt.own Hp.self), ?_⟩
    refine WFor.byIdxO (fun j ρ' σ' => σ' dw' = some (1, .sdict (tents tm1)) ∧ (∀ (k : Nat) (t : Team), tm1[k]? = some t → WheelD σ' t.W t.d t.g t.past t.l) ∧ σ' H' = some (1, .inst a_House [("wheels", .ref dw'), ("above", .ref da')]) ∧ σ' da' = some (1, .sdict (aents (ab.take j))) ∧ Extd σ σ' ∧ σ' b2 = some (9, .list ((aents ab).map fun p => .str p.1)) ∧ ρ' "self" = some (.ref H) ∧ ρ' "found" = some (.ref H')) ?_ ?_ ?_
    · exact ⟨Hp.new hb2.none hdw, fun k t q => (hwh k t q).2.keep (Kpt.new hb2.none), Hp.new hb2.none hHH, Hp.new hb2.none hda, fun a p q => Hp.new hb2.none (e _ _ q), Hp.self, by walk_at "lk", by walk_at "lk"⟩
    · clear hdw hHH hda hb hb2 hh hH2 ha2
      rintro j v ρ' σ' hv ⟨hdw, hww, hHH, hda, e, hb, r0, r1⟩
      refine ⟨ListAt.own hb, ?_⟩
      intro KL hKL
      obtain ⟨p, hp, rfl⟩ : ∃ p : Str × Str, ab[j]? = some p ∧ v = .str p.1 := by
        unfold aents at hv
        rw [List.map_map, List.getElem?_map] at hv
        obtain ⟨p, h1, h2⟩ := Option.map_eq_some_iff.mp hv
        exact ⟨p, h1, h2.symm⟩
      have hh := h.ext e
      have hH2 := hh.hou
      have ha2 := hh.das
      have hga : getK (aents ab) p.1 = some (.str p.2) := getK_above hh (List.mem_of_getElem? hp)
      with_reducible refine WSt.localA (by kernel_rfl) ?_
      with_reducible refine WSs.cons ?_
      with_reducible refine WS.setItem (by with_unfolding_all (first | exact fun _ _ => rfl | exact fun _ _ _ => rfl)) ?_
      with_reducible refine WE.sub ?_
      with_reducible refine WE.attr (by with_unfolding_all (first | exact fun _ _ => rfl | exact fun _ _ _ => rfl)) ?_
      with_reducible refine WE.localA (by kernel_rfl) (by kernel_rfl) (by walk_at "lk") ?_
      with_reducible refine WGet.inst (by walk_at "hp") (by kernel_rfl) (by repeat (first | (with_reducible exact lk_head) | (with_reducible refine lk_tail (by kernel_rfl) ?_))) (by with_unfolding_all rfl) ?_
      with_reducible refine WE.localA (by kernel_rfl) (by kernel_rfl) (by walk_at "lk") ?_
      with_reducible refine WSub.sdict (by with_unfolding_all (first | exact fun _ _ => rfl | exact fun _ _ _ => rfl)) (by walk_at "hp") (by with_reducible assumption) ?_
      with_reducible refine WE.attr (by with_unfolding_all (first | exact fun _ _ => rfl | exact fun _ _ _ => rfl)) ?_
      with_reducible refine WE.localA (by kernel_rfl) (by kernel_rfl) (by walk_at "lk") ?_
      with_reducible refine WGet.inst (by walk_at "hp") (by kernel_rfl) (by repeat (first | (with_reducible exact lk_head) | (with_reducible refine lk_tail (by kernel_rfl) ?_))) (by with_unfolding_all rfl) ?_
      with_reducible refine WE.localA (by kernel_rfl) (by kernel_rfl) (by walk_at "lk") ?_
      refine WPut.sdict hda (by simp [aents]; walk_at "om") ?_
      have ep : putK (aents (ab.take j)) p.1 (.str p.2) = aents (ab.take (j + 1)) := by
        rw [putK_no]
        · rw [List.take_add_one, hp]; unfold aents; rw [List.map_append]; rfl
        · rw [aents_names]
          intro w
          obtain ⟨y, hy, ey⟩ := List.mem_map.mp w
          obtain ⟨i, hi⟩ := List.mem_iff_getElem?.mp hy
          have hij : i < j := by
            have := (List.getElem?_eq_some_iff.mp hi).1
            exact Nat.lt_of_lt_of_le this (List.length_take_le ..)
          rw [List.getElem?_take, if_pos hij] at hi
          exact Nat.ne_of_lt hij (nodup_at h.an hi hp ey)
      rw [ep]
      with_reducible refine WSs.nil ?_
      refine hKL _ _ ⟨Hp.ne hdd hdw, fun k t q => (hww k t q).keep (Kpt.put hda (by have := (hwh k t q).1; walk_at "om")), Hp.ne (fun q => ?_) hHH, Hp.self, fun a p q => Hp.ne (fun e2 => by rw [e2, nda] at q; exact nomatch q) (e _ _ q), Hp.tag hda (by decide) hb, by walk_at "lk", by walk_at "lk"⟩
      rw [q, hda] at hHH; exact nomatch hHH
    · clear hdw hHH hda hb hb2 hh hH2 ha2
      rintro ρ' σ' ⟨hdw, hww, hHH, hda, e, hb, r0, r1⟩
      refine ⟨ListAt.own hb, ?_⟩
      have el2 : ((aents ab).map fun p => MV.str p.1).length = ab.length := by simp [aents]
      rw [el2, List.take_length] at hda
      with_reducible refine WSs.cons ?_
      with_reducible refine WS.ret ?_
      with_reducible refine WE.localA (by kernel_rfl) (by kernel_rfl) (by walk_at "lk") ?_
      refine hq H' dw' da' tm1 σ' ⟨hHH, hdw, hda, fun t ht => ?_, by rw [coreT_names hct]; exact tn, ?_, fun t ht => ?_, h.an, hdd⟩ hct (fun k t q => (hwh k t q).1) e
      · obtain ⟨k, hk⟩ := List.mem_iff_getElem?.mp ht
        exact hww k t hk
      · refine List.pairwise_iff_getElem.mpr fun i m hi hm him q => ?_
        rw [List.length_map] at hi hm
        rw [List.getElem_map, List.getElem_map] at q
        have a1 := (hwh i _ (List.getElem?_eq_getElem hi)).1
        have a2 := (hwh m _ (List.getElem?_eq_getElem hm)).1
        walk_at "om"
      · obtain ⟨k, hk⟩ := List.mem_iff_getElem?.mp ht
        have := (hwh k t hk).1
        walk_at "om"
theorem core_at {l l' : List Shr} (h : l'.map core = l.map core) {k : Nat} {x : Shr} (hk : l[k]? = some x) : ∃ x', l'[k]? = some x' ∧ core x' = core x := by
  have e : (l'.map core)[k]? = some (core x) := by rw [h, List.getElem?_map, hk]; rfl
  rw [List.getElem?_map] at e
  obtain ⟨x', h1, h2⟩ := Option.map_eq_some_iff.mp e
  exact ⟨x', h1, h2⟩
theorem pick_core : ∀ {l l' : List Shr} {f f' : Option Shr}, l'.map core = l.map core → f'.map core = f.map core → (pick l' f').map core = (pick l f).map core
  | [], [], _, _, _, h => h
  | [], _ :: _, _, _, h, _ => nomatch h
  | _ :: _, [], _, _, h, _ => nomatch h
  | x :: l, y :: l', f, f', h, hf => by
    rw [List.map_cons, List.map_cons] at h
    obtain ⟨h1, h2⟩ := List.cons.inj h
    have er : y.ready = x.ready := congrArg (·.2.2.2) h1
    have ec : y.clock = x.clock := congrArg (·.2.2.1) h1
    have e : better y f' = better x f := by
      cases f with
      | none =>
        cases f' with
        | none => rfl
        | some z => exact nomatch hf
      | some u =>
        cases f' with
        | none => exact nomatch hf
        | some z =>
          have eu : z.clock = u.clock := congrArg (·.2.2.1) (Option.some.inj hf)
          simp only [better, ec, eu]
    simp only [pick, er, e]
    refine pick_core h2 ?_
    split
    · exact congrArg some h1
    · exact hf
theorem pick_at {l l' : List Shr} (nd : (l'.map (·.name)).Nodup) (h : l'.map core = l.map core) {j : Nat} {x : Shr} (hj : l[j]? = some x) (hp : pick l Option.none = some x) : ∃ x', l'[j]? = some x' ∧ pick l' Option.none = some x' ∧ core x' = core x := by
  have hc := pick_core (f := Option.none) (f' := Option.none) h rfl
  rw [hp] at hc
  obtain ⟨z, hz, ez⟩ := Option.map_eq_some_iff.mp hc
  obtain ⟨x', hk', ex⟩ := core_at h hj
  have hm : z ∈ l' := by
    rcases pick_mem hz with q | q
    · exact q.1
    · exact nomatch q
  obtain ⟨i, hi⟩ := List.mem_iff_getElem?.mp hm
  have en : z.name = x'.name := (congrArg (·.1) ez).trans (congrArg (·.1) ex).symm
  have hij := nodup_at nd hi hk' en
  rw [hij, hk'] at hi
  have e2 := Option.some.inj hi
  subst e2
  exact ⟨x', hk', hz, ex⟩
theorem core_dealt {x y : Shr} (h : core x = core y) : core (dealt x) = core (dealt y) := by
  have e1 : x.name = y.name := congrArg (·.1) h
  have e2 : x.share = y.share := congrArg (·.2.1) h
  have e3 : x.clock = y.clock := congrArg (·.2.2.1) h
  have e4 : x.ready = y.ready := congrArg (·.2.2.2) h
  unfold core dealt
  dsimp only
  rw [e1, e2, e3, e4]
theorem coreT_at {tm tm' : List Team} (h : tm'.map coreT = tm.map coreT) {k : Nat} {t : Team} (hk : tm[k]? = some t) : ∃ t', tm'[k]? = some t' ∧ coreT t' = coreT t := by
  have e : (tm'.map coreT)[k]? = some (coreT t) := by rw [h, List.getElem?_map, hk]; rfl
  rw [List.getElem?_map] at e
  obtain ⟨x', h1, h2⟩ := Option.map_eq_some_iff.mp e
  exact ⟨x', h1, h2⟩
/-- the names are unlike -/
structure Ndp (tm : List Team) : Prop where
  tn : (tm.map (·.name)).Nodup
  nn : ∀ t ∈ tm, (t.l.map (·.name)).Nodup
theorem HouseD.ndp {σ : Hp} {H dw da : Nat} {tm : List Team} {ab : List (Str × Str)} (h : HouseD σ H dw da tm ab) : Ndp tm := ⟨h.tn, fun t ht => (h.whl t ht).nn⟩
theorem Ndp.set {tm : List Team} {k j : Nat} {t : Team} {x : Shr} (h : Ndp tm) (hk : tm[k]? = some t) (hj : t.l[j]? = some x) : Ndp (tm.set k (dealtT t j x)) := by
  refine ⟨by rw [map_set_same (fun v : Team => v.name) (y := dealtT t j x) hk rfl]; exact h.tn, fun u hu => ?_⟩
  rcases mem_set_or hu with rfl | ⟨i, _, hi⟩
  · show ((t.l.set j (dealt x)).map (·.name)).Nodup
    rw [map_set_same (fun v : Shr => v.name) (y := dealt x) hj rfl]; exact h.nn t (List.mem_of_getElem? hk)
  · exact h.nn u (List.mem_of_getElem? hi)
theorem coreT_dealt {t t' : Team} {j : Nat} {x x' : Shr} (h : coreT t' = coreT t) (e : core x' = core x) : coreT (dealtT t' j x') = coreT (dealtT t j x) := by
  have e1 : t'.name = t.name := congrArg (·.1) h
  have e2 : t'.l.map core = t.l.map core := congrArg (·.2.2) h
  have e3 : x'.clock = x.clock := congrArg (·.2.2.1) e
  unfold coreT dealtT
  dsimp only
  rw [e1, e3, map_set', map_set', e2, core_dealt e]
/-- what a deal does hangs on the cores alone -/
theorem deal_det {tm tm1 : List Team} {k : Nat} {p : List Str} (d : Deal tm k p tm1) : ∀ {tm2 tm3 : List Team} {p2 : List Str}, tm2.map coreT = tm.map coreT → Ndp tm → Ndp tm2 → Deal tm2 k p2 tm3 → p2 = p ∧ tm3.map coreT = tm1.map coreT := by
  induction d with
  | @hand tm k t j x h1 h2 h3 h4 =>
    intro tm2 tm3 p2 hc n1 n2 d2
    obtain ⟨t2, a1, a2⟩ := coreT_at hc h1
    obtain ⟨x', b1, b2, b3⟩ := pick_at (n2.nn t2 (List.mem_of_getElem? a1)) (congrArg (·.2.2) a2) h2 h3
    have bn : x'.name = x.name := congrArg (·.1) b3
    cases d2 with
    | @hand _ _ t5 j5 x5 c1 c2 c3 c4 =>
      have : t5 = t2 := Option.some.inj (c1.symm.trans a1)
      subst this
      have : x5 = x' := Option.some.inj (c3.symm.trans b2)
      subst this
      have := nodup_at (n2.nn t5 (List.mem_of_getElem? a1)) c2 b1 rfl
      subst this
      exact ⟨by rw [bn], by rw [map_set', map_set', hc, coreT_dealt a2 b3]⟩
    | @team _ _ t5 j5 x5 k6 t6 p6 _ c1 c2 c3 c4 c5 c6 =>
      have : t5 = t2 := Option.some.inj (c1.symm.trans a1)
      subst this
      have : x5 = x' := Option.some.inj (c3.symm.trans b2)
      subst this
      refine absurd ?_ h4
      rw [← coreT_names hc, ← bn, ← c5]
      exact List.mem_map.mpr ⟨t6, List.mem_of_getElem? c4, rfl⟩
  | @team tm k t j x k' t' p tm' h1 h2 h3 h4 h5 d ih =>
    intro tm2 tm3 p2 hc n1 n2 d2
    obtain ⟨t2, a1, a2⟩ := coreT_at hc h1
    obtain ⟨x', b1, b2, b3⟩ := pick_at (n2.nn t2 (List.mem_of_getElem? a1)) (congrArg (·.2.2) a2) h2 h3
    have bn : x'.name = x.name := congrArg (·.1) b3
    cases d2 with
    | @hand _ _ t5 j5 x5 c1 c2 c3 c4 =>
      have : t5 = t2 := Option.some.inj (c1.symm.trans a1)
      subst this
      have : x5 = x' := Option.some.inj (c3.symm.trans b2)
      subst this
      refine absurd ?_ c4
      rw [coreT_names hc, bn, ← h5]
      exact List.mem_map.mpr ⟨t', List.mem_of_getElem? h4, rfl⟩
    | @team _ _ t5 j5 x5 k6 t6 p6 _ c1 c2 c3 c4 c5 c6 =>
      have : t5 = t2 := Option.some.inj (c1.symm.trans a1)
      subst this
      have : x5 = x' := Option.some.inj (c3.symm.trans b2)
      subst this
      have := nodup_at (n2.nn t5 (List.mem_of_getElem? a1)) c2 b1 rfl
      subst this
      obtain ⟨t7, e1, e2⟩ := coreT_at hc h4
      have e3 : t7.name = t'.name := congrArg (·.1) e2
      have := nodup_at n2.tn c4 e1 (by rw [c5, e3, h5, bn])
      subst this
      obtain ⟨q1, q2⟩ := ih (tm2 := tm2.set k (dealtT t5 j5 x5)) (by rw [map_set', map_set', hc, coreT_dealt a2 b3]) (n1.set h1 h2) (n2.set c1 c2) c6
      exact ⟨by rw [bn, q1], q2⟩
/-- one deal, or nobody -/
def Step (tm : List Team) (p : List Str) (tm' : List Team) : Prop := (∃ t : Team, tm[0]? = some t ∧ ((anyR t.l = false ∧ p = [] ∧ tm' = tm) ∨ (anyR t.l = true ∧ Deal tm 0 p tm')))
inductive Deals : List Team → List (List Str) → List Team → Prop
  | nil {tm} : Deals tm [] tm
  | cons {tm p tm1 ps tm2} : Step tm p tm1 → Deals tm1 ps tm2 → Deals tm (p :: ps) tm2
theorem anyR_core {l l' : List Shr} (h : l'.map core = l.map core) : anyR l' = anyR l := by
  have : ∀ m : List Shr, anyR m = (m.map core).any (·.2.2.2) := fun m => by unfold anyR; rw [List.any_map]; rfl
  rw [this, this, h]
theorem deal_ndp {tm tm1 : List Team} {k : Nat} {p : List Str} (d : Deal tm k p tm1) : Ndp tm → Ndp tm1 := by
  induction d with
  | hand h1 h2 _ _ => exact fun n => n.set h1 h2
  | team h1 h2 _ _ _ _ ih => exact fun n => ih (n.set h1 h2)
theorem step_ndp {tm tm1 : List Team} {p : List Str} (d : Step tm p tm1) (n : Ndp tm) : Ndp tm1 := by
  obtain ⟨t, _, ⟨_, _, rfl⟩ | ⟨_, d⟩⟩ := d
  · exact n
  · exact deal_ndp d n
theorem step_det {tm tm1 tm2 tm3 : List Team} {p p2 : List Str} (d : Step tm p tm1) (hc : tm2.map coreT = tm.map coreT) (n1 : Ndp tm) (n2 : Ndp tm2) (d2 : Step tm2 p2 tm3) : p2 = p ∧ tm3.map coreT = tm1.map coreT := by
  obtain ⟨t, h0, h⟩ := d
  obtain ⟨t2, h02, h2⟩ := d2
  obtain ⟨t3, a1, a2⟩ := coreT_at hc h0
  have : t3 = t2 := Option.some.inj (a1.symm.trans h02)
  subst this
  have er := anyR_core (congrArg (·.2.2) a2)
  rcases h with ⟨b1, rfl, rfl⟩ | ⟨b1, b2⟩ <;> rcases h2 with ⟨c1, rfl, rfl⟩ | ⟨c1, c2⟩
  · exact ⟨rfl, hc⟩
  · rw [er, b1] at c1; exact nomatch c1
  · rw [er, b1] at c1; exact nomatch c1
  · exact deal_det b2 hc n1 n2 c2
theorem deals_det {tm tm1 : List Team} {ps : List (List Str)} (d : Deals tm ps tm1) : ∀ {tm2 tm3 : List Team} {qs : List (List Str)}, tm2.map coreT = tm.map coreT → Ndp tm → Ndp tm2 → Deals tm2 qs tm3 → qs.take ps.length = ps.take qs.length := by
  induction d with
  | nil => intro tm2 tm3 qs hc n1 n2 d2; simp
  | cons s d ih =>
    intro tm2 tm3 qs hc n1 n2 d2
    cases d2 with
    | nil => simp
    | cons s2 d2 =>
      obtain ⟨rfl, q⟩ := step_det s hc n1 n2 s2
      rw [List.length_cons, List.length_cons, List.take_succ_cons, List.take_succ_cons, ih q (step_ndp s n1) (step_ndp s2 n2) d2]
theorem Deals.app {tm tm1 tm2 : List Team} {ps : List (List Str)} {p : List Str} (d : Deals tm ps tm1) (s : Step tm1 p tm2) : Deals tm (ps ++ [p]) tm2 := by
  induction d with
  | nil => exact .cons s .nil
  | cons s' d ih => exact .cons s' (ih s)
theorem All2.imp {α β : Type} {R R' : α → β → Prop} {l : List α} {m : List β} (h : All2 R l m) (k : ∀ a b, R a b → R' a b) : All2 R' l m := by
  induction h with
  | nil => exact .nil
  | cons r _ ih => exact .cons (k _ _ r) ih
theorem all2_at {α β : Type} {R : α → β → Prop} {l : List α} {m : List β} (h : All2 R l m) : ∀ {k : Nat} {b : β}, m[k]? = some b → ∃ a, l[k]? = some a ∧ R a b := by
  induction h with
  | nil => intro k b h; simp at h
  | @cons x y l m r _ ih =>
    intro k b h
    cases k with
    | zero => simp at h; subst h; exact ⟨x, rfl, r⟩
    | succ k => simp only [List.getElem?_cons_succ] at h ⊢; exact ih h
theorem coreT_same {tm tm' : List Team} (h : tm'.map coreT = tm.map coreT) {k : Nat} {t' : Team} (hk : tm'[k]? = some t') : ∃ t : Team, tm[k]? = some t ∧ t.name = t'.name ∧ t.past = t'.past ∧ t.l.map core = t'.l.map core := by
  obtain ⟨t, h1, h2⟩ := coreT_at h.symm hk
  exact ⟨t, h1, congrArg (·.1) h2, congrArg (·.2.1) h2, congrArg (·.2.2) h2⟩
theorem tree_core {tm tm' : List Team} {ab : List (Str × Str)} (h : tm'.map coreT = tm.map coreT) (tr : Tree tm ab) : Tree tm' ab := by
  refine ⟨?_, fun k t' hk hpos => ?_, fun k t' j x' hk hj => ?_, tr.top⟩
  · obtain ⟨t, h1, h2⟩ := tr.root
    obtain ⟨t', a1, a2⟩ := coreT_at h h1
    exact ⟨t', a1, (congrArg (·.1) a2).trans h2⟩
  · obtain ⟨t, h1, h2, _, _⟩ := coreT_same h hk
    obtain ⟨k', u, j, x, lt, b1, b2, b3, b4⟩ := tr.up k t h1 hpos
    obtain ⟨u', c1, c2⟩ := coreT_at h b1
    obtain ⟨x', d1, d2⟩ := core_at (congrArg (·.2.2) c2) b3
    exact ⟨k', u', j, x', lt, c1, by rw [← h2, show u'.name = u.name from congrArg (·.1) c2]; exact b2, d1, by rw [show x'.name = x.name from congrArg (·.1) d2, b4, h2]⟩
  · obtain ⟨t, h1, h2, _, h3⟩ := coreT_same h hk
    obtain ⟨x, d1, d2⟩ := core_at h3 hj
    rw [← h2, ← show x.name = x'.name from congrArg (·.1) d2]
    exact tr.mem k t j x h1 d1
theorem link_core {tm tm' : List Team} {ab : List (Str × Str)} (h : tm'.map coreT = tm.map coreT) (lk : Link tm ab fun _ => False) : Link tm' ab fun _ => False := by
  intro k t' k' u' j x' hk _ hab hk' hj hx
  obtain ⟨t, h1, h2, _, h3⟩ := coreT_same h hk
  obtain ⟨u, g1, g2, _, g3⟩ := coreT_same h hk'
  obtain ⟨x, d1, d2⟩ := core_at g3 hj
  have := lk k t k' u j x h1 (fun q => q) (by rw [h2, g2]; exact hab) g1 d1 (by rw [show x.name = x'.name from congrArg (·.1) d2, hx, h2])
  rw [← show x.ready = x'.ready from congrArg (·.2.2.2) d2, this, anyR_core h3]
theorem sht_core {tm tm' : List Team} (h : tm'.map coreT = tm.map coreT) (s : ShT tm) : ShT tm' := fun t' ht' => by
  obtain ⟨k, hk⟩ := List.mem_iff_getElem?.mp ht'
  obtain ⟨t, h1, h2, _, h3⟩ := coreT_same h hk
  obtain ⟨s1, s2⟩ := s t (List.mem_of_getElem? h1)
  have ll := congrArg List.length h3
  rw [List.length_map, List.length_map] at ll
  refine ⟨by rw [← ll]; exact s1, fun x' hx' => ?_⟩
  obtain ⟨j, hj⟩ := List.mem_iff_getElem?.mp hx'
  obtain ⟨x, d1, d2⟩ := core_at h3 hj
  rw [← show x.share = x'.share from congrArg (·.2.1) d2]
  exact s2 x (List.mem_of_getElem? d1)
/-- lists of names, as a list -/
structure Paths (σ : Hp) (L : Nat) (us : List Nat) (ps : List (List Str)) : Prop where
  lst : σ L = some (9, .list (us.map .ref))
  pth : All2 (fun u (p : List Str) => σ u = some (9, .list (p.map .str))) us ps
def KpG (σ σ' : Hp) : Prop := ∀ a t o, σ a = some (t, o) → t < 1000 → σ' a = some (t, o)
theorem coming_c {H dw da : Nat} {tm : List Team} {ab : List (Str × Str)} {c : Int} (h : HouseD σ H dw da tm ab) (tr : Tree tm ab) (lk : Link tm ab fun _ => False) (hs : ShT tm) (htl : tm.length ≤ 1000) (hal : ab.length ≤ 1000) (c0 : 0 ≤ c) (c1 : c ≤ 999)
    (hq : ∀ L us ps tm1 tm2 σ', Paths σ' L us ps → tm1.map coreT = tm.map coreT → Ndp tm1 → Deals tm1 ps tm2 → (ps.length : Int) = c → KpG σ σ' → Q (.ref L) σ') : WFn (cx w mean mg mb) ⟨n + 6, true, sc⟩ m_House_coming [.ref H, .int c] ρ Q X σ := by
  have hH := h.hou
  have hb : (decide (0 ≤ c) && decide (c ≤ 999)) = true := by rw [decide_eq_true c0, decide_eq_true c1]; rfl
  refine WFn.fn2 (p1 := "self") (p2 := "count") ⟨⟨_, _, _, _, _, _, _, _, _, _, _, _, _, (rfl : (Mine.hd.heap_39 w.params).lookup m_House_coming = _), by kernel_rfl, us2 fun _ _ => rfl⟩, by kernel_rfl⟩ ?_
  with_reducible refine WSs.cons ?_
  with_reducible refine WS.ite ?_
  with_reducible refine WT.not ?_
  with_reducible refine WT.plain (by with_unfolding_all (first | exact fun _ _ => rfl | exact fun _ _ _ => rfl)) ?_
  with_reducible refine WE.call rfl rfl ?_
  with_reducible refine WE.globalA (by kernel_rfl) g_is_whole ?_
  with_reducible refine And.intro (Callee.fn fn_is_whole) ?_
  with_reducible refine WEs.cons rfl ?_
  with_reducible refine WE.localA (by kernel_rfl) (by kernel_rfl) (by walk_at "lk") ?_
  with_reducible refine WEs.cons rfl ?_
  with_reducible refine WE.int ?_
  with_reducible refine WEs.cons rfl ?_
  with_reducible refine WE.globalA (by kernel_rfl) g_MOST_COMING ?_
  with_reducible refine WEs.nil ?_
  refine WCall.of_fn (is_whole_int ?_)
  rw [hb]
  with_reducible refine WTr.bool ?_
  with_reducible refine if_nt ?_
  with_reducible refine WSs.nil ?_
  with_reducible refine WSs.cons ?_
  with_reducible refine WS.assign (by with_unfolding_all (first | exact fun _ _ => rfl | exact fun _ _ _ => rfl)) ?_
  with_reducible refine WE.method (by with_unfolding_all (first | exact fun _ _ => rfl | exact fun _ _ _ => rfl)) rfl rfl rfl ?_
  with_reducible refine WE.localA (by kernel_rfl) (by kernel_rfl) (by walk_at "lk") ?_
  with_reducible refine WM.inst (by walk_at "hp") ms_House_copied (by kernel_rfl) ?_
  with_reducible refine And.intro (Callee.meth ms_House_copied) ?_
  with_reducible refine WEs.nil ?_
  refine WCall.of_fn (copied_h 1000 (by decide) h tr.root (fun t ht => (hs t ht).1) htl hal fun H' dw' da' tm1 σ1 h1 hc hg e1 => ?_)
  have tr1 := tree_core hc tr
  have lk1 := link_core hc lk
  have hs1 := sht_core hc hs
  have tl1 : tm1.length ≤ 1000 := by have := congrArg List.length hc; rw [List.length_map, List.length_map] at this; walk_at "om"
  have gs : ∀ t, t < 1000 → t ∉ tm1.map (·.g) := fun t ht hm => by
    obtain ⟨u, hu, e⟩ := List.mem_map.mp hm
    obtain ⟨k, hk⟩ := List.mem_iff_getElem?.mp hu
    have := hg k u hk
    walk_at "om"
  with_reducible refine WSt.cellA (by kernel_rfl) ?_
  with_reducible refine WSs.cons ?_
  with_reducible refine WS.ret ?_
  refine WE.compA 9 rfl (by with_unfolding_all (first | exact fun _ _ => rfl | exact fun _ _ _ => rfl)) (by kernel_rfl) (by ((repeat (first | assumption | (refine Lo.put_ne (by kernel_rfl) ?_))); rfl)) ?_
  with_reducible refine WE.call rfl rfl ?_
  with_reducible refine WE.globalA (by kernel_rfl) g_range ?_
  with_reducible refine And.intro (Callee.con rfl) ?_
  with_reducible refine WEs.cons rfl ?_
  with_reducible refine WE.localA (by kernel_rfl) (by kernel_rfl) (by walk_at "lk") ?_
  with_reducible refine WEs.nil ?_
  refine WCall.range1 9 fun b hbb => ?_
  refine ⟨_, _, itR Hp.self c0 (by walk_at "om"), by simp [upTo]; walk_at "om", ?_⟩
  refine WComp.inv (fun j acc σ' => ∃ us ps tmj, acc = us.map MV.ref ∧ All2 (fun u (p : List Str) => σ' u = some (9, .list (p.map .str))) us ps ∧ ps.length = j ∧ Deals tm1 ps tmj ∧ HouseD σ' H' dw' da' tmj ab ∧ Link tmj ab (fun _ => False) ∧ ShT tmj ∧ Same tm1 tmj ∧ KpG σ σ') _ 0 ⟨[], [], tm1, rfl, .nil, rfl, .nil, h1.ext fun a p q => Hp.new hbb.none q, lk1, hs1, Same.refl _, fun a t o q _ => Hp.new hbb.none (e1 _ _ q)⟩ ?_ ?_
  · rintro k v acc σ' hv ⟨us, ps, tmj, rfl, hu, hp, hd, hh, lkj, hsj, sm, kp⟩
    refine ⟨trivial, ?_⟩
    have trj := tr1.same sm
    obtain ⟨t0, ht0, _⟩ := trj.root
    have hHj := hh.hou
    have gsj : ∀ t, t < 1000 → t ∉ tmj.map (·.g) := fun t ht hm => by
      obtain ⟨u, hu, e⟩ := List.mem_map.mp hm
      obtain ⟨k, hk⟩ := List.mem_iff_getElem?.mp hu
      exact gs t ht (e ▸ gs_mem sm hk)
    have tlj : tmj.length ≤ 1000 := by rw [sm.len]; exact tl1
    with_reducible refine WE.method (by with_unfolding_all (first | exact fun _ _ => rfl | exact fun _ _ _ => rfl)) rfl rfl rfl ?_
    with_reducible refine WE.cellA (by kernel_rfl) (by kernel_rfl) (by walk_at "lk") ?_
    with_reducible refine WM.inst (by walk_at "hp") ms_House_deal (by kernel_rfl) ?_
    with_reducible refine And.intro (Callee.meth ms_House_deal) ?_
    with_reducible refine WEs.nil ?_
    cases ha : anyR t0.l with
    | false =>
      refine WCall.of_fn (deal_noneT hh trj hsj ht0 ha fun D σ2 h2 k2 hD => ?_)
      refine ⟨us ++ [D], ps ++ [[]], tmj, by simp, (hu.imp fun _ _ q => k2 _ _ _ q (gsj _ (by decide))).append (.cons hD .nil), by rw [List.length_append, hp]; rfl, hd.app ⟨t0, ht0, .inl ⟨ha, rfl, rfl⟩⟩, h2, lkj, hsj, sm, fun a t o q m => k2 _ _ _ (kp _ _ _ q m) (gsj _ m)⟩
    | true =>
      refine WCall.of_fn (deal_cT hh trj lkj hsj ht0 ha (by walk_at "om") fun D p tm' σ2 h2 k2 hD dl sm2 lk2 sh2 => ?_)
      refine ⟨us ++ [D], ps ++ [p], tm', by simp, (hu.imp fun _ _ q => k2 _ _ _ q (gsj _ (by decide))).append (.cons hD .nil), by rw [List.length_append, hp]; rfl, hd.app ⟨t0, ht0, .inr ⟨ha, dl⟩⟩, h2, lk2, sh2, sm.trans sm2, fun a t o q m => k2 _ _ _ (kp _ _ _ q m) (gsj _ m)⟩
  · rintro acc σ' ⟨us, ps, tmj, rfl, hu, hp, hd, hh, lkj, hsj, sm, kp⟩
    refine ⟨trivial, fun D hD => ?_⟩
    skip
    refine hq D us ps tm1 tmj _ ⟨Hp.self, hu.imp fun _ _ q => Hp.new hD q⟩ hc h1.ndp hd ?_ fun a t o q m => Hp.new hD (kp _ _ _ q m)
    rw [hp]
    simp only [upTo, List.length_map, List.length_range, Nat.zero_add, Int.sub_zero]
    walk_at "om"
theorem leave_handG {H dw da k j : Nat} {tm : List Team} {ab : List (Str × Str)} {t : Team} {x : Shr} (h : HouseD σ H dw da tm ab) (tr : Tree tm ab) (lk : Link tm ab fun _ => False) (hk : tm[k]? = some t) (hn : x.name ∉ tm.map (·.name)) (hj : t.l[j]? = some x) (hz : ∀ u ∈ tm, u.l.length ≤ 1000000) (hal : ab.length ≤ 1000000)
    (hq : ∀ tm1 t1 x1 σ', Same tm tm1 → Link tm1 ab (fun _ => False) → tm1[k]? = some t1 → t1.name = t.name → t1.l[j]? = some x1 → x1.name = x.name → x1.ready = false → HouseD σ' H dw da (tm1.set k { t1 with l := t1.l.eraseIdx j }) (ab.filter fun p => decide (p.1 ≠ x.name)) → KpH σ σ' → Q .none σ') : WFn (cx w mean mg mb) ⟨n + 5, true, sc⟩ m_House_leave [.ref H, .str x.name] ρ Q X σ := by
  have hm := tr.mem k t j x hk hj
  have hH := h.hou
  have hd := h.dws
  have hg0 := getK_noteam hn
  refine WFn.fn2 (p1 := "self") (p2 := "name") ⟨⟨_, _, _, _, _, _, _, _, _, _, _, _, _, (rfl : (Mine.hd.heap_39 w.params).lookup m_House_leave = _), by kernel_rfl, us2 fun _ _ => rfl⟩, by kernel_rfl⟩ ?_
  with_reducible refine WSs.cons ?_
  with_reducible refine WS.assign (by with_unfolding_all (first | exact fun _ _ => rfl | exact fun _ _ _ => rfl)) ?_
  with_reducible refine WE.method (by with_unfolding_all (first | exact fun _ _ => rfl | exact fun _ _ _ => rfl)) rfl rfl rfl ?_
  with_reducible refine WE.localA (by kernel_rfl) (by kernel_rfl) (by walk_at "lk") ?_
  with_reducible refine WM.inst (by walk_at "hp") ms_House_need (by kernel_rfl) ?_
  with_reducible refine And.intro (Callee.meth ms_House_need) ?_
  with_reducible refine WEs.cons rfl ?_
  with_reducible refine WE.localA (by kernel_rfl) (by kernel_rfl) (by walk_at "lk") ?_
  with_reducible refine WEs.nil ?_
  refine WCall.of_fn (hneed_c h hm ?_)
  with_reducible refine WSt.localA (by kernel_rfl) ?_
  with_reducible refine WSs.cons ?_
  with_reducible refine WS.ite ?_
  with_reducible refine WT.cmp1 rfl ?_
  with_reducible refine WE.localA (by kernel_rfl) (by kernel_rfl) (by walk_at "lk") ?_
  with_reducible refine WE.attr (by with_unfolding_all (first | exact fun _ _ => rfl | exact fun _ _ _ => rfl)) ?_
  with_reducible refine WE.localA (by kernel_rfl) (by kernel_rfl) (by walk_at "lk") ?_
  with_reducible refine WGet.inst (by walk_at "hp") (by kernel_rfl) (by repeat (first | (with_reducible exact lk_head) | (with_reducible refine lk_tail (by kernel_rfl) ?_))) (by with_unfolding_all rfl) ?_
  with_reducible refine WC.inS_f (by walk_at "hp") (by with_reducible assumption) ?_
  with_reducible refine WTr.bool ?_
  with_reducible refine if_ff ?_
  with_reducible refine WSs.cons ?_
  with_reducible refine WS.expr (by with_unfolding_all (first | exact fun _ _ => rfl | exact fun _ _ _ => rfl)) ?_
  with_reducible refine WE.method (by with_unfolding_all (first | exact fun _ _ => rfl | exact fun _ _ _ => rfl)) rfl rfl rfl ?_
  with_reducible refine WE.localA (by kernel_rfl) (by kernel_rfl) (by walk_at "lk") ?_
  with_reducible refine WM.inst (by walk_at "hp") ms_House_rest (by kernel_rfl) ?_
  with_reducible refine And.intro (Callee.meth ms_House_rest) ?_
  with_reducible refine WEs.cons rfl ?_
  with_reducible refine WE.localA (by kernel_rfl) (by kernel_rfl) (by walk_at "lk") ?_
  with_reducible refine WEs.nil ?_
  refine WCall.of_fn (hrest_c h tr lk hk hj hn hz fun tm1 σ1 U lk1 => ?_)
  obtain ⟨t1, a1, a2, _, _, _, a6⟩ := U.s.at_ k t hk
  obtain ⟨x1, b1, b2, _⟩ := rows_at a6 hj
  obtain ⟨t2, x2, c1, c2, c3, c4⟩ := U.hd k t j x hk hj hn
  have : t2 = t1 := Option.some.inj (c1.symm.trans a1)
  subst this
  have : x2 = x1 := Option.some.inj (c2.symm.trans b1)
  subst this
  have c4 : x2.ready = false := by rw [c4]; exact if_pos rfl
  have h1 := U.h
  have k1 := U.kp
  have hz1 : t2.l.length ≤ 1000000 := by have := congrArg List.length a6; rw [List.length_map, List.length_map] at this; rw [this]; exact hz t (List.mem_of_getElem? hk)
  clear hH hd
  have hH := h1.hou
  have hd := h1.dws
  have hmt := List.mem_of_getElem? a1
  have hgt := getK_team h1 hmt
  rw [a2] at hgt
  have hwt := h1.whl t2 hmt
  have hW : σ1 t2.W = some (t2.g, .inst a_Wheel [("past", .int t2.past), ("sharers", .ref t2.d)]) := hwt.whl
  with_reducible refine WSs.nil ?_
  with_reducible refine WSs.cons ?_
  with_reducible refine WS.expr (by with_unfolding_all (first | exact fun _ _ => rfl | exact fun _ _ _ => rfl)) ?_
  with_reducible refine WE.method (by with_unfolding_all (first | exact fun _ _ => rfl | exact fun _ _ _ => rfl)) rfl rfl rfl ?_
  with_reducible refine WE.sub ?_
  with_reducible refine WE.attr (by with_unfolding_all (first | exact fun _ _ => rfl | exact fun _ _ _ => rfl)) ?_
  with_reducible refine WE.localA (by kernel_rfl) (by kernel_rfl) (by walk_at "lk") ?_
  with_reducible refine WGet.inst (by walk_at "hp") (by kernel_rfl) (by repeat (first | (with_reducible exact lk_head) | (with_reducible refine lk_tail (by kernel_rfl) ?_))) (by with_unfolding_all rfl) ?_
  with_reducible refine WE.localA (by kernel_rfl) (by kernel_rfl) (by walk_at "lk") ?_
  with_reducible refine WSub.sdict (by with_unfolding_all (first | exact fun _ _ => rfl | exact fun _ _ _ => rfl)) (by walk_at "hp") (by with_reducible assumption) ?_
  with_reducible refine WM.inst (by walk_at "hp") ms_Wheel_leave (by kernel_rfl) ?_
  with_reducible refine And.intro (Callee.meth ms_Wheel_leave) ?_
  with_reducible refine WEs.cons rfl ?_
  with_reducible refine WE.localA (by kernel_rfl) (by kernel_rfl) (by walk_at "lk") ?_
  with_reducible refine WEs.nil ?_
  rw [← b2]
  refine WCall.of_fn (leave_c hwt hz1 b1 fun σ2 h2 o2 => ?_)
  have hh := h1.one (t' := { t2 with l := t2.l.eraseIdx j }) a1 rfl rfl rfl h2 o2
  have k2 : KpH σ σ2 := fun b t' o q m1 m100 => o2.at (k1 b t' o q m1 m100) (by have := h1.gg t2 hmt; walk_at "om")
  clear hH hd
  have hH := hh.hou
  have hda := hh.das
  rw [b2]
  with_reducible refine WSs.cons ?_
  with_reducible refine WS.expr (by with_unfolding_all (first | exact fun _ _ => rfl | exact fun _ _ _ => rfl)) ?_
  with_reducible refine WE.method (by with_unfolding_all (first | exact fun _ _ => rfl | exact fun _ _ _ => rfl)) rfl rfl rfl ?_
  with_reducible refine WE.attr (by with_unfolding_all (first | exact fun _ _ => rfl | exact fun _ _ _ => rfl)) ?_
  with_reducible refine WE.localA (by kernel_rfl) (by kernel_rfl) (by walk_at "lk") ?_
  with_reducible refine WGet.inst (by walk_at "hp") (by kernel_rfl) (by repeat (first | (with_reducible exact lk_head) | (with_reducible refine lk_tail (by kernel_rfl) ?_))) (by with_unfolding_all rfl) ?_
  refine WM.dictPop hda ?_
  with_reducible refine And.intro (Callee.con rfl) ?_
  with_reducible refine WEs.cons rfl ?_
  with_reducible refine WE.localA (by kernel_rfl) (by kernel_rfl) (by walk_at "lk") ?_
  with_reducible refine WEs.nil ?_
  refine WCall.dictPop hda (by simpa [aents] using hal) (getK_above hh hm) ?_
  rw [delK_aents]
  with_reducible refine WSs.nil ?_
  exact hq tm1 t2 x2 _ U.s lk1 a1 a2 b1 b2 c4 (hh.popA x.name) fun b t' o q m1 m100 => Hp.tag hda m1 (k2 b t' o q m1 m100)
theorem filter_erase {tm : List Team} (tn : (tm.map (·.name)).Nodup) {i : Nat} {u : Team} (hi : tm[i]? = some u) : (tm.filter fun v => decide (v.name ≠ u.name)) = tm.eraseIdx i := by
  induction tm generalizing i with
  | nil => simp at hi
  | cons y tm ih =>
    rw [List.map_cons, List.nodup_cons] at tn
    cases i with
    | zero =>
      simp at hi; subst hi
      rw [List.filter_cons, if_neg (by simp), List.eraseIdx_cons_zero]
      refine List.filter_eq_self.mpr fun v hv => decide_eq_true fun e => tn.1 (by rw [← e]; exact List.mem_map.mpr ⟨v, hv, rfl⟩)
    | succ i =>
      simp only [List.getElem?_cons_succ] at hi
      have hne : y.name ≠ u.name := fun e => tn.1 (by rw [e]; exact List.mem_map.mpr ⟨u, List.mem_of_getElem? hi, rfl⟩)
      rw [List.filter_cons, if_pos (decide_eq_true hne), List.eraseIdx_cons_succ, ih tn.2 hi]
def Let (x : Str) : Prop := ∀ c ∈ x.cps.toList, 97 ≤ c ∧ c ≤ 122
theorem app_list (a b : Str) : (a ++ b).cps.toList = a.cps.toList ++ b.cps.toList := Array.toList_append
theorem app_len (a b : Str) : (a ++ b).length = a.length + b.length := Array.size_append
theorem Let.app {a b : Str} (h : Let a) (k : Let b) : Let (a ++ b) := fun c hc => by
  rw [app_list] at hc
  rcases List.mem_append.mp hc with q | q
  · exact h c q
  · exact k c q
theorem repS_list (a n : Nat) : (repS ⟨#[a]⟩ n).cps.toList = List.replicate n a := by
  show ((List.replicate n #[a]).foldl (· ++ ·) #[]).toList = _
  induction n with
  | zero => rfl
  | succ n ih => rw [List.replicate_succ, List.foldl_cons, foldl_app, Array.toList_append, ih, List.replicate_succ]; rfl
theorem Let.rep {a n : Nat} (h : 97 ≤ a ∧ a ≤ 122) : Let (repS ⟨#[a]⟩ n) := fun c hc => by
  rw [repS_list] at hc
  rw [List.eq_of_mem_replicate hc]; exact h
theorem Let.one {a : Nat} (h : 97 ≤ a ∧ a ≤ 122) : Let ⟨#[a]⟩ := fun c hc => by
  have : c = a := by simpa using hc
  rw [this]; exact h
theorem inL_ok : ((List.range 128).all fun n => inL n == (decide (97 ≤ n) && decide (n ≤ 122))) = true := by kernel_rfl
theorem inL_at {c : Nat} (h : 97 ≤ c ∧ c ≤ 122) : inL c = true := by
  have := eq_of_beq (List.all_eq_true.mp inL_ok c (List.mem_range.mpr (by walk_at "om")))
  rw [this, decide_eq_true h.1, decide_eq_true h.2]; rfl
theorem Let.good {x : Str} (h : Let x) (h1 : 1 ≤ x.length) (h8 : x.length ≤ 8) : goodN x = true := by
  unfold goodN
  rw [decide_eq_true (by walk_at "om"), decide_eq_true (by walk_at "om"), Bool.true_and, Bool.true_and, List.all_eq_true]
  intro b hb
  obtain ⟨c, hc, rfl⟩ := List.mem_map.mp hb
  exact inL_at (h c hc)
theorem ascii_of {x : Str} (h : ∀ c ∈ x.cps.toList, c < 128) : x.cps.all (· < 128) = true := by
  rw [← Array.all_toList, List.all_eq_true]
  exact fun c hc => decide_eq_true (h c hc)
theorem Let.ascii {x : Str} (h : Let x) : x.cps.all (· < 128) = true := ascii_of fun c hc => by have := h c hc; walk_at "om"
/-- a name of the law's -/
structure okN (x : Str) : Prop where
  le : Let x
  l1 : 1 ≤ x.length
  l8 : x.length ≤ 8
  ot : x ≠ "other"
structure badN (x : Str) : Prop where
  bad : goodN x = false
  len : x.length ≤ 100
  asc : x.cps.all (· < 128) = true
theorem okN.good {x : Str} (h : okN x) : goodN x = true := h.le.good h.l1 h.l8
theorem shapeA : ((List.range 5).all fun a => (List.range 26).all fun i => (List.range 4).all fun b => decide (repS "o" a ++ ⟨#[97 + i]⟩ ++ repS "o" b ≠ ("other" : Str))) = true := by kernel_rfl
theorem okA {a b i : Int} (a0 : 0 ≤ a) (a1 : a < 5) (b0 : 0 ≤ b) (b1 : b < 4) (i0 : 0 ≤ i) (i1 : i < 26) : okN (repS "o" a.toNat ++ ⟨#[97 + i.toNat]⟩ ++ repS "o" b.toNat) := by
  have lo : ∀ n, (repS ("o" : Str) n).length = n := fun n => by rw [repS_length]; exact Nat.mul_one n
  have e : (repS "o" a.toNat ++ ⟨#[97 + i.toNat]⟩ ++ repS "o" b.toNat : Str).length = a.toNat + 1 + b.toNat := by rw [app_len, app_len, lo, lo]; rfl
  refine ⟨((Let.rep (a := 111) (by decide)).app (Let.one (by walk_at "om"))).app (Let.rep (a := 111) (by decide)), by walk_at "om", by walk_at "om", ?_⟩
  have := List.all_eq_true.mp (List.all_eq_true.mp (List.all_eq_true.mp shapeA a.toNat (List.mem_range.mpr (by walk_at "om"))) i.toNat (List.mem_range.mpr (by walk_at "om"))) b.toNat (List.mem_range.mpr (by walk_at "om"))
  exact of_decide_eq_true this
theorem let_at : ((List.range 26).all fun i => decide (LETTERS.cps[i]? = some (97 + i))) = true := by kernel_rfl
theorem letter {i : Int} (i0 : 0 ≤ i) (i1 : i < 26) : LETTERS.cps[i.toNat]? = some (97 + i.toNat) := of_decide_eq_true (List.all_eq_true.mp let_at i.toNat (List.mem_range.mpr (by walk_at "om")))
theorem WS.mono {c : Cx} {i : Ix} {st : Stmt} {ρ : Lo} {σ : Hp} {X : SX} {Q Q' : MF → Lo → Hp → Prop} (h : WS c i st ρ Q X σ) (k : ∀ m ρ' σ', Q m ρ' σ' → Q' m ρ' σ') : WS c i st ρ Q' X σ := S.mono h k
theorem WSs.split {c : Cx} {i : Ix} {st : Stmt} {rest : List Stmt} {ρ : Lo} {σ : Hp} {X : SX} {Q : MF → Lo → Hp → Prop} (P : Lo → Hp → Prop) (h : WS c i st ρ (fun m ρ₁ σ₁ => m = .next ∧ P ρ₁ σ₁) X σ) (k : ∀ ρ₁ σ₁, P ρ₁ σ₁ → WSs c i rest ρ₁ Q X σ₁) : WSs c i (st :: rest) ρ Q X σ :=
  WSs.cons (WS.mono h fun m ρ₁ σ₁ ⟨e, p⟩ => by subst e; exact k ρ₁ σ₁ p)
structure Row4 where
  name : Str
  up : Str
  share : Int
  team : Bool
  here : Bool
def rowW (r : Row4) : List MV := [.str r.name, .str r.up, .int r.share, .bool r.team, .bool r.here]
abbrev RowAt (σ : Hp) (t : Nat) (r : Row4) : Prop := σ t = some (7, .list (rowW r))
structure Rows4 (σ : Hp) (B : Nat) (R : List Row4) (ts : List Nat) : Prop where
  lst : σ B = some (6, .list (ts.map .ref))
  row : All2 (RowAt σ) ts R
  nd : ts.Nodup
theorem WSs.splitO {c : Cx} {i : Ix} {st : Stmt} {rest : List Stmt} {ρ : Lo} {σ : Hp} {X : SX} {Q : MF → Lo → Hp → Prop} (P : Lo → Hp → Prop) (h : ∀ G : MF → Lo → Hp → Prop, (∀ ρ₁ σ₁, P ρ₁ σ₁ → G .next ρ₁ σ₁) → WS c i st ρ G X σ) (k : ∀ ρ₁ σ₁, P ρ₁ σ₁ → WSs c i rest ρ₁ Q X σ₁) : WSs c i (st :: rest) ρ Q X σ :=
  WSs.split P (h _ fun _ _ p => ⟨rfl, p⟩) k
theorem Rows4.len {σ : Hp} {B : Nat} {R : List Row4} {ts : List Nat} (h : Rows4 σ B R ts) : ts.length = R.length := h.row.length
theorem Rows4.keep {σ σ' : Hp} {B : Nat} {R : List Row4} {ts : List Nat} (h : Rows4 σ B R ts) (k6 : ∀ {a o}, σ a = some (6, o) → σ' a = some (6, o)) (k7 : ∀ {a o}, σ a = some (7, o) → σ' a = some (7, o)) : Rows4 σ' B R ts := ⟨k6 h.lst, h.row.imp fun _ _ e => k7 e, h.nd⟩
theorem Rows4.ext {σ σ' : Hp} {B : Nat} {R : List Row4} {ts : List Nat} (h : Rows4 σ B R ts) (e : Extd σ σ') : Rows4 σ' B R ts := h.keep (fun q => e _ _ q) (fun q => e _ _ q)
theorem Rows4.at {σ : Hp} {B k : Nat} {R : List Row4} {ts : List Nat} {r : Row4} (h : Rows4 σ B R ts) (hk : R[k]? = some r) : ∃ t, ts[k]? = some t ∧ σ t = some (7, .list [.str r.name, .str r.up, .int r.share, .bool r.team, .bool r.here]) := all2_at h.row hk
theorem all2_updW {σ : Hp} {t : Nat} {o : MO} : ∀ {l : List Row4} {ts : List Nat}, t ∉ ts → All2 (RowAt σ) ts l → All2 (RowAt (σ.put t 7 o)) ts l
  | _, _, _, .nil => .nil
  | _, _, n, .cons r k => .cons (Hp.ne (fun q => n (by rw [q]; exact List.mem_cons_self ..)) r) (all2_updW (fun q => n (List.mem_cons_of_mem _ q)) k)
theorem all2_setW {σ : Hp} {t : Nat} {y : Row4} : ∀ {l : List Row4} {ts : List Nat} {k : Nat}, ts.Nodup → ts[k]? = some t → All2 (RowAt σ) ts l → All2 (RowAt (σ.put t 7 (.list (rowW y)))) ts (l.set k y)
  | _, _, _, _, h, .nil => by simp at h
  | _, _, 0, nd, h, .cons r k => by
    simp at h; subst h
    exact .cons Hp.self (all2_updW (List.nodup_cons.mp nd).1 k)
  | _, _, j + 1, nd, h, .cons r k => by
    simp only [List.getElem?_cons_succ] at h
    rw [List.set_cons_succ]
    exact .cons (Hp.ne (fun q => (List.nodup_cons.mp nd).1 (by rw [q]; exact List.mem_of_getElem? h)) r) (all2_setW (List.nodup_cons.mp nd).2 h k)
theorem Rows4.upd {σ : Hp} {B k t : Nat} {R : List Row4} {ts : List Nat} {y : Row4} (h : Rows4 σ B R ts) (ht : ts[k]? = some t) {o : MO} (e : σ t = some (7, o)) : Rows4 (σ.put t 7 (.list (rowW y))) B (R.set k y) ts := ⟨Hp.tag e (by decide) h.lst, all2_setW h.nd ht h.row, h.nd⟩
def nm13 (s : Int) (k : Nat) : Str := repS "o" ((s.fdiv 26).fmod 5).toNat ++ ⟨#[97 + ((3 * (k : Int) + s).fmod 26).toNat]⟩ ++ repS "o" ((s.fdiv 130).fmod 4).toNat
theorem nm13_ok (s : Int) (k : Nat) : okN (nm13 s k) := okA (fmod_ge _ (by decide)) (fmod_lt _ (by decide)) (fmod_ge _ (by decide)) (fmod_lt _ (by decide)) (fmod_ge _ (by decide)) (fmod_lt _ (by decide))
theorem nm13_inj {s : Int} {j k : Nat} (hj : j < 26) (hk : k < 26) (h : nm13 s j = nm13 s k) : j = k := by
  have hl := congrArg (fun x : Str => x.cps.toList) h
  unfold nm13 at hl
  rw [app_list, app_list, app_list, app_list] at hl
  have := List.append_cancel_left (List.append_cancel_right hl)
  have e := (List.cons.inj (show [97 + ((3 * (j : Int) + s).fmod 26).toNat] = [97 + ((3 * (k : Int) + s).fmod 26).toNat] from this)).1
  rw [Int.fmod_eq_emod_of_nonneg _ (by decide), Int.fmod_eq_emod_of_nonneg _ (by decide)] at e
  walk_at "om"
/-- a text that a team bears, of the first rows -/
def UpOk (R : List Row4) (k : Nat) (x : Str) : Prop := x = "" ∨ ∃ (i : Nat) (r : Row4), i < k ∧ R[i]? = some r ∧ r.team = true ∧ r.name = x
theorem UpOk.app {R : List Row4} {k m : Nat} {x : Str} {r : Row4} (h : UpOk R k x) (hm : k ≤ m) : UpOk (R ++ [r]) m x := h.imp id fun ⟨i, r', h1, h2, h3⟩ => ⟨i, r', Nat.lt_of_lt_of_le h1 hm, by rw [List.getElem?_append_left (List.getElem?_eq_some_iff.mp h2).1]; exact h2, h3⟩
/-- what the rows are -/
structure ROk4 (s : Int) (R : List Row4) : Prop where
  nm : ∀ (k : Nat) (r : Row4), R[k]? = some r → r.name = nm13 s k
/-- what the rows are at first -/
structure RNew (R : List Row4) : Prop where
  nw : ∀ (k : Nat) (r : Row4), R[k]? = some r → UpOk R k r.up ∧ 1 ≤ r.share ∧ r.share ≤ 12 ∧ r.here = true
theorem rows_by_c {f s : Int} {deep : Bool} (hq : ∀ B R ts σ', Rows4 σ' B R ts → ROk4 s R → RNew R → 1 ≤ R.length → R.length ≤ 25 → Extd σ σ' → Q (.ref B) σ') : WFn (cx w mean mg mb) ⟨n + 1, true, sc⟩ a_law_rows_by [.int f, .int s, .bool deep] ρ Q X σ := by
  refine WFn.fn3 (p1 := "_law_first") (p2 := "_law_second") (p3 := "_law_deep") ⟨⟨_, _, _, _, _, _, _, _, _, _, _, _, _, (rfl : (Mine.hd.heap_39 w.params).lookup a_law_rows_by = _), by kernel_rfl, us3 fun _ _ _ => rfl⟩, by kernel_rfl⟩ ?_
  with_reducible refine WSs.cons ?_
  with_reducible refine WS.assign (by with_unfolding_all (first | exact fun _ _ => rfl | exact fun _ _ _ => rfl)) ?_
  with_reducible refine WE.binop ?_
  with_reducible refine WE.binop ?_
  with_reducible refine WE.int ?_
  with_reducible refine WE.binop ?_
  with_reducible refine WE.localA (by kernel_rfl) (by kernel_rfl) (by walk_at "lk") ?_
  with_reducible refine WE.int ?_
  with_reducible refine WB.mod (by walk_at "ar") ?_
  with_reducible refine WB.add ?_
  with_reducible refine WE.binop ?_
  with_reducible refine WE.int ?_
  with_reducible refine WE.call rfl rfl ?_
  with_reducible refine WE.globalA (by kernel_rfl) g_int ?_
  with_reducible refine And.intro (Callee.con rfl) ?_
  with_reducible refine WEs.cons rfl ?_
  with_reducible refine WE.cmp1 rfl ?_
  with_reducible refine WE.binop ?_
  with_reducible refine WE.binop ?_
  with_reducible refine WE.localA (by kernel_rfl) (by kernel_rfl) (by walk_at "lk") ?_
  with_reducible refine WE.int ?_
  with_reducible refine WB.div (by walk_at "ar") (by walk_at "ar") ?_
  with_reducible refine WE.int ?_
  with_reducible refine WB.mod (by walk_at "ar") ?_
  with_reducible refine WE.int ?_
  with_reducible refine WC.eqI ?_
  with_reducible refine WEs.nil ?_
  refine WCall.intB ?_
  have hm : ∀ b : Bool, 1 ≤ 1 + f.fmod 9 + 16 * (if b = true then 1 else 0) ∧ 1 + f.fmod 9 + 16 * (if b = true then 1 else 0) ≤ 25 := fun b => by
    have h0 := fmod_ge f (show (1 : Int) ≤ 9 by decide)
    have h1 := fmod_lt f (show (1 : Int) ≤ 9 by decide)
    cases b <;> simp <;> walk_at "om"
  have hmm := hm ((f.fdiv 9).fmod 6 == 1)
  with_reducible refine WB.mul (IntMulOk.of_left (by decide)) ?_
  with_reducible refine WB.add ?_
  with_reducible refine WSt.localA (by kernel_rfl) ?_
  with_reducible refine WSs.cons ?_
  with_reducible refine WS.assign (by with_unfolding_all (first | exact fun _ _ => rfl | exact fun _ _ _ => rfl)) ?_
  with_reducible refine WE.str ?_
  with_reducible refine WSt.localA (by kernel_rfl) ?_
  with_reducible refine WSs.cons ?_
  with_reducible refine WS.assign (by with_unfolding_all (first | exact fun _ _ => rfl | exact fun _ _ _ => rfl)) ?_
  generalize 1 + f.fmod 9 + 16 * (if ((f.fdiv 9).fmod 6 == 1) = true then 1 else 0) = m at hmm ⊢
  obtain ⟨m2, m25⟩ := hmm
  clear hm
  refine WE.list 6 ?_
  with_reducible refine WEs.nil ?_
  refine ⟨by simp, fun B hB => ?_⟩
  with_reducible refine WSt.localA (by kernel_rfl) ?_
  with_reducible refine WSs.cons ?_
  with_reducible refine WS.assign (by with_unfolding_all (first | exact fun _ _ => rfl | exact fun _ _ _ => rfl)) ?_
  refine WE.list 3 ?_
  with_reducible refine WEs.cons rfl ?_
  with_reducible refine WE.str ?_
  with_reducible refine WEs.nil ?_
  refine ⟨by simp, fun S hS => ?_⟩
  with_reducible refine WSt.localA (by kernel_rfl) ?_
  with_reducible refine WSs.cons ?_
  with_reducible refine WS.for rfl (by with_unfolding_all (first | exact fun _ _ => rfl | exact fun _ _ _ => rfl)) ?_
  with_reducible refine WE.call rfl rfl ?_
  with_reducible refine WE.globalA (by kernel_rfl) g_range ?_
  with_reducible refine And.intro (Callee.con rfl) ?_
  with_reducible refine WEs.cons rfl ?_
  with_reducible refine WE.localA (by kernel_rfl) (by kernel_rfl) (by walk_at "lk") ?_
  with_reducible refine WEs.nil ?_
  refine WCall.range1 9 fun b hb => ?_
  refine ⟨_, _, itR Hp.self (by walk_at "om") (by walk_at "om"), ?_⟩
  have nB : σ B = Option.none := hB.none
  have nS : σ S = Option.none := by
    cases e : σ S with
    | none => rfl
    | some p => have := hS.none; rw [Hp.new hB.none e] at this; exact nomatch this
  refine WFor.upToO (fun j ρ' σ' => (∃ R ts, Rows4 σ' B R ts ∧ ROk4 s R ∧ RNew R ∧ R.length = j ∧ ∃ sp : List Str, σ' S = some (3, .list (sp.map .str)) ∧ 1 ≤ sp.length ∧ sp.length ≤ j + 1 ∧ ∀ x ∈ sp, UpOk R j x) ∧ Extd σ σ' ∧ ρ' "_law_first" = some (.int f) ∧ ρ' "_law_second" = some (.int s) ∧ ρ' "_law_deep" = some (.bool deep) ∧ ρ' "_law_many" = some (.int m) ∧ ρ' "_law_some" = some (.str "abcdefghijklmnopqrstuvwxyz") ∧ ρ' "_law_rows" = some (.ref B) ∧ ρ' "_law_spots" = some (.ref S)) ?_ ?_ ?_
  · refine ⟨⟨[], [], ⟨Hp.new hb.none (Hp.new hS.none Hp.self), .nil, List.nodup_nil⟩, ⟨fun k r h => by simp at h⟩, ⟨fun k r h => by simp at h⟩, rfl, [""], Hp.new hb.none Hp.self, Nat.le_refl _, Nat.le_refl _, fun x hx => ?_⟩, fun a p q => Hp.new hb.none (Hp.new hS.none (Hp.new hB.none q)), by walk_at "lk", by walk_at "lk", by walk_at "lk", by walk_at "lk", by walk_at "lk", by walk_at "lk", by walk_at "lk"⟩
    exact .inl (List.mem_singleton.mp hx)
  · rintro j ρ' σ' hj ⟨⟨R, ts, hR, ok, nw, rl, sp, hsp, sp1, spl, spa⟩, e, r0, r1, rd, r2, r3, r4, r5⟩
    intro KL hKL
    have tl := hR.len
    have c0 := fmod_ge (j : Int) (show (1 : Int) ≤ 4 by decide)
    have c1 := fmod_lt (j : Int) (show (1 : Int) ≤ 4 by decide)
    have d0 : (1 + (j : Int).fmod 4) ≠ 0 := by walk_at "om"
    have d1 : (1 + (j : Int).fmod 4).natAbs < 1073741824 := by walk_at "om"
    have g0 := fmod_ge (f.fdiv 54) (show (1 : Int) ≤ 5 by decide)
    have g1 := fmod_lt (f.fdiv 54) (show (1 : Int) ≤ 5 by decide)
    with_reducible refine WSt.localA (by kernel_rfl) ?_
    with_reducible refine WSs.cons ?_
    with_reducible refine WS.assign (by with_unfolding_all (first | exact fun _ _ => rfl | exact fun _ _ _ => rfl)) ?_
    with_reducible refine WE.binop ?_
    with_reducible refine WE.binop ?_
    with_reducible refine WE.localA (by kernel_rfl) (by kernel_rfl) (by walk_at "lk") ?_
    with_reducible refine WE.binop ?_
    with_reducible refine WE.binop ?_
    with_reducible refine WE.int ?_
    with_reducible refine WE.localA (by kernel_rfl) (by kernel_rfl) (by walk_at "lk") ?_
    with_reducible refine WB.mul (IntMulOk.of_left (by decide)) ?_
    with_reducible refine WE.binop ?_
    with_reducible refine WE.int ?_
    with_reducible refine WE.binop ?_
    with_reducible refine WE.binop ?_
    with_reducible refine WE.localA (by kernel_rfl) (by kernel_rfl) (by walk_at "lk") ?_
    with_reducible refine WE.int ?_
    with_reducible refine WB.div (by walk_at "ar") (by walk_at "ar") ?_
    with_reducible refine WE.int ?_
    with_reducible refine WB.mod (by walk_at "ar") ?_
    with_reducible refine WB.add ?_
    refine WB.mul (IntMulOk.of_right (intBits_le_iff.mpr (by walk_at "om"))) ?_
    with_reducible refine WB.add ?_
    with_reducible refine WE.binop ?_
    with_reducible refine WE.int ?_
    with_reducible refine WE.binop ?_
    with_reducible refine WE.localA (by kernel_rfl) (by kernel_rfl) (by walk_at "lk") ?_
    with_reducible refine WE.int ?_
    with_reducible refine WB.mod (by walk_at "ar") ?_
    with_reducible refine WB.add ?_
    with_reducible refine WB.div (by walk_at "ar") (by walk_at "ar") ?_
    with_reducible refine WSt.localA (by kernel_rfl) ?_
    generalize (s + 7 * (j : Int) * (1 + (f.fdiv 54).fmod 5)).fdiv (1 + (j : Int).fmod 4) = num
    refine WSs.splitO (fun ρ1 σ1 => σ1 = σ' ∧ (∃ tb : Bool, ρ1 "_law_team" = some (.bool tb)) ∧ ρ1 "_law_k" = some (.int (j : Int)) ∧ ρ1 "_law_number" = some (.int num) ∧ ρ1 "_law_first" = some (.int f) ∧ ρ1 "_law_second" = some (.int s) ∧ ρ1 "_law_deep" = some (.bool deep) ∧ ρ1 "_law_many" = some (.int m) ∧ ρ1 "_law_some" = some (.str "abcdefghijklmnopqrstuvwxyz") ∧ ρ1 "_law_rows" = some (.ref B) ∧ ρ1 "_law_spots" = some (.ref S)) ?_ ?_
    · intro KS hKS
      by_cases c5 : num.fmod 5 < 2
      · skip
        with_reducible refine WS.assign (by with_unfolding_all (first | exact fun _ _ => rfl | exact fun _ _ _ => rfl)) ?_
        with_reducible refine WE.and ?_
        with_reducible refine WE.or ?_
        with_reducible refine WE.cmp1 rfl ?_
        with_reducible refine WE.binop ?_
        with_reducible refine WE.localA (by kernel_rfl) (by kernel_rfl) (by walk_at "lk") ?_
        with_reducible refine WE.int ?_
        with_reducible refine WB.mod (by walk_at "ar") ?_
        with_reducible refine WE.int ?_
        with_reducible refine WC.lt ?_
        with_reducible refine WTr.bool ?_
        with_reducible refine if_dt (by with_reducible assumption) ?_
        with_reducible refine WTr.bool ?_
        with_reducible refine if_dt (by with_reducible assumption) ?_
        with_reducible refine WE.and1 ?_
        with_reducible refine WE.cmp1 rfl ?_
        with_reducible refine WE.binop ?_
        with_reducible refine WE.localA (by kernel_rfl) (by kernel_rfl) (by walk_at "lk") ?_
        with_reducible refine WE.int ?_
        with_reducible refine WB.add ?_
        with_reducible refine WE.localA (by kernel_rfl) (by kernel_rfl) (by walk_at "lk") ?_
        with_reducible refine WC.lt ?_
        with_reducible refine WSt.localA (by kernel_rfl) ?_
        exact hKS _ _ ⟨rfl, ⟨_, by walk_at "lk"⟩, by walk_at "lk", by walk_at "lk", by walk_at "lk", by walk_at "lk", by walk_at "lk", by walk_at "lk", by walk_at "lk", by walk_at "lk", by walk_at "lk"⟩
      · cases deep with
        | true =>
          with_reducible refine WS.assign (by with_unfolding_all (first | exact fun _ _ => rfl | exact fun _ _ _ => rfl)) ?_
          with_reducible refine WE.and ?_
          with_reducible refine WE.or ?_
          with_reducible refine WE.cmp1 rfl ?_
          with_reducible refine WE.binop ?_
          with_reducible refine WE.localA (by kernel_rfl) (by kernel_rfl) (by walk_at "lk") ?_
          with_reducible refine WE.int ?_
          with_reducible refine WB.mod (by walk_at "ar") ?_
          with_reducible refine WE.int ?_
          with_reducible refine WC.lt ?_
          with_reducible refine WTr.bool ?_
          with_reducible refine if_df (by with_reducible assumption) ?_
          with_reducible refine WE.and1 ?_
          with_reducible refine WE.localA (by kernel_rfl) (by kernel_rfl) (by walk_at "lk") ?_
          with_reducible refine WTr.bool ?_
          with_reducible refine if_tt ?_
          with_reducible refine WE.and1 ?_
          with_reducible refine WE.cmp1 rfl ?_
          with_reducible refine WE.binop ?_
          with_reducible refine WE.localA (by kernel_rfl) (by kernel_rfl) (by walk_at "lk") ?_
          with_reducible refine WE.int ?_
          with_reducible refine WB.add ?_
          with_reducible refine WE.localA (by kernel_rfl) (by kernel_rfl) (by walk_at "lk") ?_
          with_reducible refine WC.lt ?_
          with_reducible refine WSt.localA (by kernel_rfl) ?_
          exact hKS _ _ ⟨rfl, ⟨_, by walk_at "lk"⟩, by walk_at "lk", by walk_at "lk", by walk_at "lk", by walk_at "lk", by walk_at "lk", by walk_at "lk", by walk_at "lk", by walk_at "lk", by walk_at "lk"⟩
        | false =>
          with_reducible refine WS.assign (by with_unfolding_all (first | exact fun _ _ => rfl | exact fun _ _ _ => rfl)) ?_
          with_reducible refine WE.and ?_
          with_reducible refine WE.or ?_
          with_reducible refine WE.cmp1 rfl ?_
          with_reducible refine WE.binop ?_
          with_reducible refine WE.localA (by kernel_rfl) (by kernel_rfl) (by walk_at "lk") ?_
          with_reducible refine WE.int ?_
          with_reducible refine WB.mod (by walk_at "ar") ?_
          with_reducible refine WE.int ?_
          with_reducible refine WC.lt ?_
          with_reducible refine WTr.bool ?_
          with_reducible refine if_df (by with_reducible assumption) ?_
          with_reducible refine WE.and1 ?_
          with_reducible refine WE.localA (by kernel_rfl) (by kernel_rfl) (by walk_at "lk") ?_
          with_reducible refine WTr.bool ?_
          with_reducible refine if_ff ?_
          with_reducible refine WSt.localA (by kernel_rfl) ?_
          exact hKS _ _ ⟨rfl, ⟨_, by walk_at "lk"⟩, by walk_at "lk", by walk_at "lk", by walk_at "lk", by walk_at "lk", by walk_at "lk", by walk_at "lk", by walk_at "lk", by walk_at "lk", by walk_at "lk"⟩
    clear r0 r1 r2 r3 r4 r5 rd
    rintro ρ1 σ1 ⟨rfl, ⟨tb, q0⟩, qk, qn, r0, r1, rd, r2, r3, r4, r5⟩
    have spn : ((sp.map MV.str).length : Int) = (sp.length : Int) := by rw [List.length_map]
    refine WSs.splitO (fun ρ2 σ2 => σ2 = σ1 ∧ (∃ x : Str, x ∈ sp ∧ ρ2 "_law_above" = some (.str x)) ∧ ρ2 "_law_team" = some (.bool tb) ∧ ρ2 "_law_k" = some (.int (j : Int)) ∧ ρ2 "_law_number" = some (.int num) ∧ ρ2 "_law_first" = some (.int f) ∧ ρ2 "_law_second" = some (.int s) ∧ ρ2 "_law_deep" = some (.bool deep) ∧ ρ2 "_law_many" = some (.int m) ∧ ρ2 "_law_some" = some (.str "abcdefghijklmnopqrstuvwxyz") ∧ ρ2 "_law_rows" = some (.ref B) ∧ ρ2 "_law_spots" = some (.ref S)) ?_ ?_
    · intro KS hKS
      cases deep with
      | true =>
        with_reducible refine WS.assign (by with_unfolding_all (first | exact fun _ _ => rfl | exact fun _ _ _ => rfl)) ?_
        with_reducible refine WE.ifexp ?_
        with_reducible refine WT.plain (by with_unfolding_all (first | exact fun _ _ => rfl | exact fun _ _ _ => rfl)) ?_
        with_reducible refine WE.localA (by kernel_rfl) (by kernel_rfl) (by walk_at "lk") ?_
        with_reducible refine WTr.bool ?_
        with_reducible refine if_tt ?_
        with_reducible refine WE.sub ?_
        with_reducible refine WE.localA (by kernel_rfl) (by kernel_rfl) (by walk_at "lk") ?_
        with_reducible refine WE.unary ?_
        with_reducible refine WE.int ?_
        with_reducible refine WU.neg ?_
        have hx0 : sp[sp.length - 1]? = some (sp[sp.length - 1]'(by walk_at "om")) := List.getElem?_eq_getElem (by walk_at "om")
        generalize (sp[sp.length - 1]'(by walk_at "om")) = x at hx0
        refine WSub.listNeg (by with_unfolding_all (first | exact fun _ _ => rfl | exact fun _ _ _ => rfl)) (ListAt.own hsp) (by decide) (by rw [spn]; walk_at "om") (by decide) (v := .str x) (by
          have : ((-1 : Int) + ((sp.map MV.str).length : Int)).toNat = sp.length - 1 := by rw [spn]; walk_at "om"
          rw [this, List.getElem?_map, hx0]; rfl) ?_
        with_reducible refine WSt.localA (by kernel_rfl) ?_
        exact hKS _ _ ⟨rfl, ⟨x, List.mem_of_getElem? hx0, by walk_at "lk"⟩, by walk_at "lk", by walk_at "lk", by walk_at "lk", by walk_at "lk", by walk_at "lk", by walk_at "lk", by walk_at "lk", by walk_at "lk", by walk_at "lk", by walk_at "lk"⟩
      | false =>
        have sl1 : (1 : Int) ≤ (sp.length : Int) := by walk_at "om"
        have sl0 : (sp.length : Int) ≠ 0 := by walk_at "om"
        have i0 := fmod_ge (num.fdiv 5) sl1
        have i1 := fmod_lt (num.fdiv 5) sl1
        have i2 : (num.fdiv 5).fmod (sp.length : Int) < 2 ^ 63 := by walk_at "om"
        obtain ⟨ix, hix⟩ := Int.eq_ofNat_of_zero_le i0
        have ixl : ix < sp.length := by walk_at "om"
        have hx0 : sp[ix]? = some sp[ix] := List.getElem?_eq_getElem ixl
        generalize sp[ix] = x at hx0
        have hx1 : (sp.map MV.str)[((num.fdiv 5).fmod (sp.length : Int)).toNat]? = some (.str x) := by rw [hix, Int.toNat_natCast, List.getElem?_map, hx0]; rfl
        with_reducible refine WS.assign (by with_unfolding_all (first | exact fun _ _ => rfl | exact fun _ _ _ => rfl)) ?_
        with_reducible refine WE.ifexp ?_
        with_reducible refine WT.plain (by with_unfolding_all (first | exact fun _ _ => rfl | exact fun _ _ _ => rfl)) ?_
        with_reducible refine WE.localA (by kernel_rfl) (by kernel_rfl) (by walk_at "lk") ?_
        with_reducible refine WTr.bool ?_
        with_reducible refine if_ff ?_
        with_reducible refine WE.sub ?_
        with_reducible refine WE.localA (by kernel_rfl) (by kernel_rfl) (by walk_at "lk") ?_
        with_reducible refine WE.binop ?_
        with_reducible refine WE.binop ?_
        with_reducible refine WE.localA (by kernel_rfl) (by kernel_rfl) (by walk_at "lk") ?_
        with_reducible refine WE.int ?_
        with_reducible refine WB.div (by walk_at "ar") (by walk_at "ar") ?_
        with_reducible refine WE.call rfl rfl ?_
        with_reducible refine WE.globalA (by kernel_rfl) g_len ?_
        with_reducible refine And.intro (Callee.con rfl) ?_
        with_reducible refine WEs.cons rfl ?_
        with_reducible refine WE.localA (by kernel_rfl) (by kernel_rfl) (by walk_at "lk") ?_
        with_reducible refine WEs.nil ?_
        refine WCall.lenList (ListAt.own hsp) (by rw [List.length_map]; walk_at "om") ?_
        rw [spn]
        with_reducible refine WB.mod (by walk_at "ar") ?_
        with_reducible refine WSub.list (by with_unfolding_all (first | exact fun _ _ => rfl | exact fun _ _ _ => rfl)) (by first | with_reducible assumption | ((with_reducible apply ListAt.own); walk_at "hp") | ((with_reducible apply ListAt.k); walk_at "hp")) (by walk_at "ar") (by walk_at "ar") (by with_reducible assumption) ?_
        with_reducible refine WSt.localA (by kernel_rfl) ?_
        exact hKS _ _ ⟨rfl, ⟨x, List.mem_of_getElem? hx0, by walk_at "lk"⟩, by walk_at "lk", by walk_at "lk", by walk_at "lk", by walk_at "lk", by walk_at "lk", by walk_at "lk", by walk_at "lk", by walk_at "lk", by walk_at "lk", by walk_at "lk"⟩
    clear q0 qk qn r0 r1 r2 r3 r4 r5 rd
    rintro ρ2 σ2 ⟨rfl, ⟨x, hxm, qa⟩, q0, qk, qn, r0, r1, rd, r2, r3, r4, r5⟩
    have xok := spa x hxm
    have a0 := fmod_ge (s.fdiv 26) (show (1 : Int) ≤ 5 by decide)
    have a1 := fmod_lt (s.fdiv 26) (show (1 : Int) ≤ 5 by decide)
    have b0 := fmod_ge (s.fdiv 130) (show (1 : Int) ≤ 4 by decide)
    have b1 := fmod_lt (s.fdiv 130) (show (1 : Int) ≤ 4 by decide)
    have l0 := fmod_ge (3 * (j : Int) + s) (show (1 : Int) ≤ 26 by decide)
    have l1 := fmod_lt (3 * (j : Int) + s) (show (1 : Int) ≤ 26 by decide)
    have l2 : (3 * (j : Int) + s).fmod 26 < 2 ^ 63 := by walk_at "om"
    have ok8 := (nm13_ok s j).l8
    have ok8' : (repS "o" ((s.fdiv 26).fmod 5).toNat ++ (⟨#[97 + ((3 * (j : Int) + s).fmod 26).toNat]⟩ : Str)).length + (repS "o" ((s.fdiv 130).fmod 4).toNat).length ≤ 8 := by rw [← app_len]; exact ok8
    have hBl := hR.lst
    with_reducible refine WSs.cons ?_
    with_reducible refine WS.assign (by with_unfolding_all (first | exact fun _ _ => rfl | exact fun _ _ _ => rfl)) ?_
    with_reducible refine WE.binop ?_
    with_reducible refine WE.binop ?_
    with_reducible refine WE.str ?_
    with_reducible refine WE.binop ?_
    with_reducible refine WE.binop ?_
    with_reducible refine WE.localA (by kernel_rfl) (by kernel_rfl) (by walk_at "lk") ?_
    with_reducible refine WE.int ?_
    with_reducible refine WB.div (by walk_at "ar") (by walk_at "ar") ?_
    with_reducible refine WE.int ?_
    with_reducible refine WB.mod (by walk_at "ar") ?_
    refine WB.mulS a0 (by walk_at "om") (show 1 ≤ 1000 by decide) ?_
    with_reducible refine WE.sub ?_
    with_reducible refine WE.localA (by kernel_rfl) (by kernel_rfl) (by walk_at "lk") ?_
    with_reducible refine WE.binop ?_
    with_reducible refine WE.binop ?_
    with_reducible refine WE.binop ?_
    with_reducible refine WE.int ?_
    with_reducible refine WE.localA (by kernel_rfl) (by kernel_rfl) (by walk_at "lk") ?_
    with_reducible refine WB.mul (IntMulOk.of_left (by decide)) ?_
    with_reducible refine WE.localA (by kernel_rfl) (by kernel_rfl) (by walk_at "lk") ?_
    with_reducible refine WB.add ?_
    with_reducible refine WE.int ?_
    with_reducible refine WB.mod (by walk_at "ar") ?_
    refine WSub.str (by with_unfolding_all (first | exact fun _ _ => rfl | exact fun _ _ _ => rfl)) l0 l2 (letter l0 l1) ?_
    refine WB.addS (size_ok (by rw [← app_len]; walk_at "om")) ?_
    with_reducible refine WSt.localA (by kernel_rfl) ?_
    with_reducible refine WSs.cons ?_
    with_reducible refine WS.assign (by with_unfolding_all (first | exact fun _ _ => rfl | exact fun _ _ _ => rfl)) ?_
    with_reducible refine WE.binop ?_
    with_reducible refine WE.localA (by kernel_rfl) (by kernel_rfl) (by walk_at "lk") ?_
    with_reducible refine WE.binop ?_
    with_reducible refine WE.str ?_
    with_reducible refine WE.binop ?_
    with_reducible refine WE.binop ?_
    with_reducible refine WE.localA (by kernel_rfl) (by kernel_rfl) (by walk_at "lk") ?_
    with_reducible refine WE.int ?_
    with_reducible refine WB.div (by walk_at "ar") (by walk_at "ar") ?_
    with_reducible refine WE.int ?_
    with_reducible refine WB.mod (by walk_at "ar") ?_
    refine WB.mulS b0 (by walk_at "om") (show 1 ≤ 1000 by decide) ?_
    refine WB.addS (size_ok (by walk_at "om")) ?_
    show WSt _ _ _ (.str (nm13 s j)) _ _ _ _
    with_reducible refine WSt.localA (by kernel_rfl) ?_
    with_reducible refine WSs.cons ?_
    with_reducible refine WS.expr (by with_unfolding_all (first | exact fun _ _ => rfl | exact fun _ _ _ => rfl)) ?_
    with_reducible refine WE.method (by with_unfolding_all (first | exact fun _ _ => rfl | exact fun _ _ _ => rfl)) rfl rfl rfl ?_
    with_reducible refine WE.localA (by kernel_rfl) (by kernel_rfl) (by walk_at "lk") ?_
    refine WM.listAppend hBl ?_
    with_reducible refine And.intro (Callee.con rfl) ?_
    with_reducible refine WEs.cons rfl ?_
    refine WE.list 7 ?_
    with_reducible refine WEs.cons rfl ?_
    with_reducible refine WE.localA (by kernel_rfl) (by kernel_rfl) (by walk_at "lk") ?_
    with_reducible refine WEs.cons rfl ?_
    with_reducible refine WE.localA (by kernel_rfl) (by kernel_rfl) (by walk_at "lk") ?_
    with_reducible refine WEs.cons rfl ?_
    with_reducible refine WE.binop ?_
    with_reducible refine WE.int ?_
    with_reducible refine WE.binop ?_
    with_reducible refine WE.binop ?_
    with_reducible refine WE.localA (by kernel_rfl) (by kernel_rfl) (by walk_at "lk") ?_
    with_reducible refine WE.int ?_
    with_reducible refine WB.div (by walk_at "ar") (by walk_at "ar") ?_
    with_reducible refine WE.int ?_
    with_reducible refine WB.mod (by walk_at "ar") ?_
    with_reducible refine WB.add ?_
    with_reducible refine WEs.cons rfl ?_
    with_reducible refine WE.localA (by kernel_rfl) (by kernel_rfl) (by walk_at "lk") ?_
    with_reducible refine WEs.cons rfl ?_
    with_reducible refine WE.bool ?_
    with_reducible refine WEs.nil ?_
    refine ⟨by simp, fun u hu => ?_⟩
    with_reducible refine WEs.nil ?_
    refine WCall.append (Hp.new hu.none hBl) (by rw [List.length_map]; walk_at "om") ?_
    have sh0 := sh_lo (num.fdiv 7)
    have sh1 := sh_hi (num.fdiv 7)
    generalize 1 + (num.fdiv 7).fmod 12 = sh at sh0 sh1 hu ⊢
    have oth : ∀ {a t' o}, σ2 a = some (t', o) → t' ≠ 6 → ((σ2.put u 7 (.list [.str (nm13 s j), .str x, .int sh, .bool tb, .bool true])).put B 6 (.list (ts.map .ref ++ [.ref u]))) a = some (t', o) := fun e n6 => Hp.tag (Hp.new hu.none hBl) n6 (Hp.new hu.none e)
    have hu3 : ((σ2.put u 7 (.list [.str (nm13 s j), .str x, .int sh, .bool tb, .bool true])).put B 6 (.list (ts.map .ref ++ [.ref u]))) u = some (7, .list [.str (nm13 s j), .str x, .int sh, .bool tb, .bool true]) := Hp.tag (Hp.new hu.none hBl) (by decide) Hp.self
    have hR2 : Rows4 ((σ2.put u 7 (.list [.str (nm13 s j), .str x, .int sh, .bool tb, .bool true])).put B 6 (.list (ts.map .ref ++ [.ref u]))) B (R ++ [⟨nm13 s j, x, sh, tb, true⟩]) (ts ++ [u]) := by
      refine ⟨by rw [List.map_append]; exact Hp.self, (hR.row.imp fun _ _ q => oth q (by decide)).append (.cons hu3 .nil), ?_⟩
      refine List.nodup_append.mpr ⟨hR.nd, by simp, fun a ha b hb q => ?_⟩
      rw [List.mem_singleton.mp hb] at q
      obtain ⟨i, hi⟩ := List.mem_iff_getElem?.mp ha
      obtain ⟨y, _, ey⟩ := hR.row.get hi
      have ey' : σ2 a = _ := ey
      rw [q, hu.none] at ey'
      exact nomatch ey'
    have e2 : Extd σ ((σ2.put u 7 (.list [.str (nm13 s j), .str x, .int sh, .bool tb, .bool true])).put B 6 (.list (ts.map .ref ++ [.ref u]))) := fun a p q => Hp.ne (fun e' => by rw [e', nB] at q; exact nomatch q) (Hp.new hu.none (e _ _ q))
    have hS2 := oth hsp (by decide)
    generalize (σ2.put u 7 (.list [.str (nm13 s j), .str x, .int sh, .bool tb, .bool true])).put B 6 (.list (ts.map .ref ++ [.ref u])) = σ3 at hR2 e2 hS2 hu3 ⊢
    have ok2 : ROk4 s (R ++ [⟨nm13 s j, x, sh, tb, true⟩]) ∧ RNew (R ++ [⟨nm13 s j, x, sh, tb, true⟩]) := by
      have key : ∀ (k : Nat) (r : Row4), (R ++ [(⟨nm13 s j, x, sh, tb, true⟩ : Row4)])[k]? = some r → (k < R.length ∧ R[k]? = some r) ∨ (k = j ∧ r = ⟨nm13 s j, x, sh, tb, true⟩) := fun k r hr => by
        by_cases hk : k < R.length
        · rw [List.getElem?_append_left hk] at hr; exact .inl ⟨hk, hr⟩
        · have hk2 : k = R.length := by
            have := (List.getElem?_eq_some_iff.mp hr).1
            rw [List.length_append] at this
            simp at this
            walk_at "om"
          subst hk2
          rw [List.getElem?_append_right (Nat.le_refl _), Nat.sub_self] at hr
          exact .inr ⟨rl, (Option.some.inj hr).symm⟩
      refine ⟨⟨fun k r hr => ?_⟩, ⟨fun k r hr => ?_⟩⟩
      · rcases key k r hr with ⟨_, q⟩ | ⟨rfl, rfl⟩
        · exact ok.nm k r q
        · rfl
      · rcases key k r hr with ⟨_, q⟩ | ⟨rfl, rfl⟩
        · obtain ⟨o1, o2⟩ := nw.nw k r q
          exact ⟨o1.app (Nat.le_refl _), o2⟩
        · exact ⟨xok.app (Nat.le_refl _), sh0, sh1, rfl⟩
    have sp2 : ∀ y ∈ sp, UpOk (R ++ [(⟨nm13 s j, x, sh, tb, true⟩ : Row4)]) (j + 1) y := fun y hy => (spa y hy).app (Nat.le_succ _)
    have last : (R ++ [(⟨nm13 s j, x, sh, tb, true⟩ : Row4)])[j]? = some ⟨nm13 s j, x, sh, tb, true⟩ := by rw [List.getElem?_append_right (Nat.le_of_eq rl), rl, Nat.sub_self]; rfl
    have rl2 : (R ++ [(⟨nm13 s j, x, sh, tb, true⟩ : Row4)]).length = j + 1 := by rw [List.length_append, rl]; rfl
    cases htb : tb with
    | false =>
      rw [htb] at q0
      with_reducible refine WSs.cons ?_
      with_reducible refine WS.ite ?_
      with_reducible refine WT.plain (by with_unfolding_all (first | exact fun _ _ => rfl | exact fun _ _ _ => rfl)) ?_
      with_reducible refine WE.localA (by kernel_rfl) (by kernel_rfl) (by walk_at "lk") ?_
      with_reducible refine WTr.bool ?_
      with_reducible refine if_ff ?_
      with_reducible refine WSs.nil ?_
      with_reducible refine WSs.nil ?_
      rw [htb] at hR2 ok2 sp2 rl2
      exact hKL _ _ ⟨⟨_, _, hR2, ok2.1, ok2.2, rl2, sp, hS2, sp1, by walk_at "om", sp2⟩, e2, by walk_at "lk", by walk_at "lk", by walk_at "lk", by walk_at "lk", by walk_at "lk", by walk_at "lk", by walk_at "lk"⟩
    | true =>
      rw [htb] at q0 last hu3
      have hB3 := hR2.lst
      have x1 : ((ts ++ [u]).map MV.ref)[((j : Nat) : Int).toNat]? = some (.ref u) := by
        rw [Int.toNat_natCast, List.getElem?_map, List.getElem?_append_right (by walk_at "om"), show j - ts.length = 0 by walk_at "om"]; rfl
      have j0 : 0 ≤ ((j : Nat) : Int) := Int.natCast_nonneg j
      have j1 : ((j : Nat) : Int) < 2 ^ 63 := by walk_at "om"
      have z0 : [MV.str (nm13 s j), .str x, .int sh, .bool true, .bool true][Int.toNat 0]? = some (.str (nm13 s j)) := rfl
      with_reducible refine WSs.cons ?_
      with_reducible refine WS.ite ?_
      with_reducible refine WT.plain (by with_unfolding_all (first | exact fun _ _ => rfl | exact fun _ _ _ => rfl)) ?_
      with_reducible refine WE.localA (by kernel_rfl) (by kernel_rfl) (by walk_at "lk") ?_
      with_reducible refine WTr.bool ?_
      with_reducible refine if_tt ?_
      with_reducible refine WSs.cons ?_
      with_reducible refine WS.expr (by with_unfolding_all (first | exact fun _ _ => rfl | exact fun _ _ _ => rfl)) ?_
      with_reducible refine WE.method (by with_unfolding_all (first | exact fun _ _ => rfl | exact fun _ _ _ => rfl)) rfl rfl rfl ?_
      with_reducible refine WE.localA (by kernel_rfl) (by kernel_rfl) (by walk_at "lk") ?_
      refine WM.listAppend hS2 ?_
      with_reducible refine And.intro (Callee.con rfl) ?_
      with_reducible refine WEs.cons rfl ?_
      with_reducible refine WE.sub ?_
      with_reducible refine WE.sub ?_
      with_reducible refine WE.localA (by kernel_rfl) (by kernel_rfl) (by walk_at "lk") ?_
      with_reducible refine WE.localA (by kernel_rfl) (by kernel_rfl) (by walk_at "lk") ?_
      with_reducible refine WSub.list (by with_unfolding_all (first | exact fun _ _ => rfl | exact fun _ _ _ => rfl)) (by first | with_reducible assumption | ((with_reducible apply ListAt.own); walk_at "hp") | ((with_reducible apply ListAt.k); walk_at "hp")) (by walk_at "ar") (by walk_at "ar") (by with_reducible assumption) ?_
      with_reducible refine WE.int ?_
      with_reducible refine WSub.list (by with_unfolding_all (first | exact fun _ _ => rfl | exact fun _ _ _ => rfl)) (by first | with_reducible assumption | ((with_reducible apply ListAt.own); walk_at "hp") | ((with_reducible apply ListAt.k); walk_at "hp")) (by walk_at "ar") (by walk_at "ar") (by with_reducible assumption) ?_
      with_reducible refine WEs.nil ?_
      refine WCall.append hS2 (by rw [List.length_map]; walk_at "om") ?_
      with_reducible refine WSs.nil ?_
      with_reducible refine WSs.nil ?_
      rw [htb] at hR2 ok2 sp2 rl2
      refine hKL _ _ ⟨⟨_, _, hR2.keep (fun q => Hp.tag hS2 (by decide) q) (fun q => Hp.tag hS2 (by decide) q), ok2.1, ok2.2, rl2, sp ++ [nm13 s j], by rw [List.map_append]; exact Hp.self, by rw [List.length_append]; simp, by rw [List.length_append]; simp; walk_at "om", fun y hy => ?_⟩, fun a p q => Hp.ne (fun e' => by rw [e', nS] at q; exact nomatch q) (e2 _ _ q), by walk_at "lk", by walk_at "lk", by walk_at "lk", by walk_at "lk", by walk_at "lk", by walk_at "lk", by walk_at "lk"⟩
      rcases List.mem_append.mp hy with q | q
      · exact sp2 y q
      · rw [List.mem_singleton.mp q]
        exact .inr ⟨j, _, Nat.lt_succ_self _, last, rfl, rfl⟩
  · rintro ρ' σ' ⟨⟨R, ts, hR, ok, nw, rl, sp, hsp, sp1, spl, spa⟩, e, r0, r1, rd, r2, r3, r4, r5⟩
    with_reducible refine WSs.cons ?_
    with_reducible refine WS.ret ?_
    with_reducible refine WE.localA (by kernel_rfl) (by kernel_rfl) (by walk_at "lk") ?_
    exact hq B R ts σ' hR ok nw (by walk_at "om") (by walk_at "om") e
theorem anyR_app {l : List Shr} {y : Shr} (h : y.ready = false) : anyR (l ++ [y]) = anyR l := by
  unfold anyR
  rw [List.any_append]
  simp [h]
/-- somebody, resting, stands in a team -/
theorem tree_enter {tm : List Team} {ab : List (Str × Str)} {k : Nat} {t : Team} {y : Shr} (tr : Tree tm ab) (hk : tm[k]? = some t) (hy : y.name ≠ "") : Tree (tm.set k { t with l := t.l ++ [y] }) (ab ++ [(y.name, t.name)]) := by
  have at_ : ∀ (i : Nat) (u : Team), tm[i]? = some u → ∃ v : Team, (tm.set k { t with l := t.l ++ [y] })[i]? = some v ∧ v.name = u.name ∧ ∀ (m : Nat) (z : Shr), u.l[m]? = some z → v.l[m]? = some z := fun i u hu => by
    by_cases q : k = i
    · subst q
      have : u = t := Option.some.inj (hu.symm.trans hk)
      subst this
      exact ⟨_, List.getElem?_set_self (List.getElem?_eq_some_iff.mp hk).1, rfl, fun m z hz => by show (u.l ++ [y])[m]? = _; rw [List.getElem?_append_left (List.getElem?_eq_some_iff.mp hz).1]; exact hz⟩
    · exact ⟨u, by rw [List.getElem?_set_ne q]; exact hu, rfl, fun m z hz => hz⟩
  have back : ∀ (i : Nat) (v : Team), (tm.set k { t with l := t.l ++ [y] })[i]? = some v → ∃ u : Team, tm[i]? = some u ∧ u.name = v.name ∧ ∀ (m : Nat) (z : Shr), v.l[m]? = some z → u.l[m]? = some z ∨ (z = y ∧ u.name = t.name) := fun i v hv => by
    by_cases q : k = i
    · subst q
      rw [List.getElem?_set_self (List.getElem?_eq_some_iff.mp hk).1] at hv
      have := Option.some.inj hv
      subst this
      refine ⟨t, hk, rfl, fun m z hz => ?_⟩
      have hz' : (t.l ++ [y])[m]? = some z := hz
      by_cases hm : m < t.l.length
      · rw [List.getElem?_append_left hm] at hz'; exact .inl hz'
      · rw [List.getElem?_append_right (Nat.not_lt.mp hm)] at hz'
        have := List.mem_of_getElem? hz'
        exact .inr ⟨List.mem_singleton.mp this, rfl⟩
    · rw [List.getElem?_set_ne q] at hv
      exact ⟨v, hv, rfl, fun m z hz => .inl hz⟩
  refine ⟨?_, ?_, ?_, ?_⟩
  · obtain ⟨u, h1, h2⟩ := tr.root
    obtain ⟨v, h3, h4, _⟩ := at_ 0 u h1
    exact ⟨v, h3, h4.trans h2⟩
  · intro i v hv hpos
    obtain ⟨u, h1, h2, _⟩ := back i v hv
    obtain ⟨i', u', j, x, lt, h3, h4, h5, h6⟩ := tr.up i u h1 hpos
    obtain ⟨v', h7, h8, h9⟩ := at_ i' u' h3
    exact ⟨i', v', j, x, lt, h7, List.mem_append.mpr (.inl (by rw [← h2, h8]; exact h4)), h9 j x h5, by rw [h6, h2]⟩
  · intro i v j x hv hj
    obtain ⟨u, h1, h2, h3⟩ := back i v hv
    rcases h3 j x hj with q | ⟨q, q'⟩
    · exact List.mem_append.mpr (.inl (by rw [← h2]; exact tr.mem i u j x h1 q))
    · exact List.mem_append.mpr (.inr (by rw [q, ← h2, q']; exact List.mem_singleton.mpr rfl))
  · rw [List.map_append, List.mem_append]
    rintro (q | q)
    · exact tr.top q
    · exact hy (List.mem_singleton.mp q).symm
theorem link_enter {tm : List Team} {ab : List (Str × Str)} {k : Nat} {t : Team} {y : Shr} (lk : Link tm ab fun _ => False) (hk : tm[k]? = some t) (hy : y.ready = false) (hn : y.name ∉ tm.map (·.name)) : Link (tm.set k { t with l := t.l ++ [y] }) (ab ++ [(y.name, t.name)]) fun _ => False := by
  intro k3 t3 k4 t4 i z h3 _ h34 h4 hi hz
  have b3 : ∃ u3 : Team, tm[k3]? = some u3 ∧ u3.name = t3.name ∧ anyR t3.l = anyR u3.l := by
    by_cases q : k = k3
    · subst q
      rw [List.getElem?_set_self (List.getElem?_eq_some_iff.mp hk).1] at h3
      have := Option.some.inj h3
      subst this
      exact ⟨t, hk, rfl, anyR_app hy⟩
    · rw [List.getElem?_set_ne q] at h3
      exact ⟨t3, h3, rfl, rfl⟩
  obtain ⟨u3, a1, a2, a3⟩ := b3
  have n3 : t3.name ∈ tm.map (·.name) := List.mem_map.mpr ⟨u3, List.mem_of_getElem? a1, a2⟩
  have b4 : ∃ u4 : Team, tm[k4]? = some u4 ∧ u4.name = t4.name ∧ u4.l[i]? = some z := by
    by_cases q : k = k4
    · subst q
      rw [List.getElem?_set_self (List.getElem?_eq_some_iff.mp hk).1] at h4
      have := Option.some.inj h4
      subst this
      have hz' : (t.l ++ [y])[i]? = some z := hi
      by_cases hm : i < t.l.length
      · rw [List.getElem?_append_left hm] at hz'; exact ⟨t, hk, rfl, hz'⟩
      · rw [List.getElem?_append_right (Nat.not_lt.mp hm)] at hz'
        have := List.mem_singleton.mp (List.mem_of_getElem? hz')
        rw [this] at hz
        exact absurd (hz ▸ n3) hn
    · rw [List.getElem?_set_ne q] at h4
      exact ⟨t4, h4, rfl, hi⟩
  obtain ⟨u4, c1, c2, c3⟩ := b4
  rw [a3]
  refine lk k3 u3 k4 u4 i z a1 (fun q => q) ?_ c1 c3 (by rw [hz, a2])
  rcases List.mem_append.mp h34 with q | q
  · rw [a2, c2]; exact q
  · have e := List.mem_singleton.mp q
    have e1 : t3.name = y.name := congrArg (·.1) e
    exact absurd (e1 ▸ n3) hn
theorem tree_team {tm : List Team} {ab : List (Str × Str)} {T : Team} {k j : Nat} {t : Team} {x : Shr} (tr : Tree tm ab) (hT : T.l = []) (hk : tm[k]? = some t) (hj : t.l[j]? = some x) (hx : x.name = T.name) : Tree (tm ++ [T]) ab := by
  have l : ∀ (i : Nat) (u : Team), tm[i]? = some u → (tm ++ [T])[i]? = some u := fun i u hu => by rw [List.getElem?_append_left (List.getElem?_eq_some_iff.mp hu).1]; exact hu
  have b : ∀ (i : Nat) (u : Team), (tm ++ [T])[i]? = some u → tm[i]? = some u ∨ (u = T ∧ i = tm.length) := fun i u hu => by
    by_cases hi : i < tm.length
    · rw [List.getElem?_append_left hi] at hu; exact .inl hu
    · have hl := (List.getElem?_eq_some_iff.mp hu).1
      rw [List.length_append] at hl
      simp at hl
      rw [List.getElem?_append_right (Nat.not_lt.mp hi)] at hu
      exact .inr ⟨List.mem_singleton.mp (List.mem_of_getElem? hu), by walk_at "om"⟩
  refine ⟨?_, ?_, ?_, tr.top⟩
  · obtain ⟨u, h1, h2⟩ := tr.root
    exact ⟨u, l 0 u h1, h2⟩
  · intro i u hu hpos
    rcases b i u hu with q | ⟨rfl, q⟩
    · obtain ⟨i', u', j', x', lt, h3, h4⟩ := tr.up i u q hpos
      exact ⟨i', u', j', x', lt, l i' u' h3, h4⟩
    · exact ⟨k, t, j, x, by rw [q]; exact (List.getElem?_eq_some_iff.mp hk).1, l k t hk, by rw [← hx]; exact tr.mem k t j x hk hj, hj, hx⟩
  · intro i u m z hu hm
    rcases b i u hu with q | ⟨rfl, q⟩
    · exact tr.mem i u m z q hm
    · rw [hT] at hm; simp at hm
theorem link_team {tm : List Team} {ab : List (Str × Str)} {T : Team} {k j : Nat} {t : Team} {x : Shr} (lk : Link tm ab fun _ => False) (tr : Tree tm ab) (an : (ab.map (·.1)).Nodup) (tn : (tm.map (·.name)).Nodup) (hT : T.l = []) (hk : tm[k]? = some t) (hj : t.l[j]? = some x) (nd : (t.l.map (·.name)).Nodup) (hx : x.name = T.name) (hr : x.ready = false) : Link (tm ++ [T]) ab fun _ => False := by
  have b : ∀ (i : Nat) (u : Team), (tm ++ [T])[i]? = some u → tm[i]? = some u ∨ u = T := fun i u hu => by
    by_cases hi : i < tm.length
    · rw [List.getElem?_append_left hi] at hu; exact .inl hu
    · rw [List.getElem?_append_right (Nat.not_lt.mp hi)] at hu
      exact .inr (List.mem_singleton.mp (List.mem_of_getElem? hu))
  intro k3 t3 k4 t4 i z h3 _ h34 h4 hi hz
  rcases b k4 t4 h4 with q4 | rfl
  · rcases b k3 t3 h3 with q3 | rfl
    · exact lk k3 t3 k4 t4 i z q3 (fun q => q) h34 q4 hi hz
    · have e := uniq tr an tn hk hj q4 hi (by rw [hx, hz])
      subst e
      have : t4 = t := Option.some.inj (q4.symm.trans hk)
      subst this
      have e2 := nodup_at nd hj hi (by rw [hx, hz])
      subst e2
      have : z = x := Option.some.inj (hi.symm.trans hj)
      rw [this, hr, hT]; rfl
  · rw [hT] at hi; simp at hi
/-- how the rows stand to the house -/
structure Rel4 (tm : List Team) (ab : List (Str × Str)) (R : List Row4) : Prop where
  abm : ∀ p, p ∈ ab ↔ ∃ (k : Nat) (r : Row4), R[k]? = some r ∧ r.here = true ∧ p = (r.name, r.up)
  tns : ∀ x : Str, x ∈ tm.map (·.name) ↔ (x = "" ∨ ∃ (k : Nat) (r : Row4), R[k]? = some r ∧ r.here = true ∧ r.team = true ∧ r.name = x)
  ent : ∀ (k : Nat) (r : Row4), R[k]? = some r → r.here = true → ∃ (i : Nat) (t : Team) (j : Nat) (x : Shr), tm[i]? = some t ∧ t.name = r.up ∧ t.l[j]? = some x ∧ x.name = r.name
  tr : Tree tm ab
  lk : Link tm ab fun _ => False
  sh : ShT tm
theorem same_sh {tm tm' : List Team} (s : Same tm tm') (h : ShT tm) : ShT tm' := fun t' ht' => by
  obtain ⟨k, hk⟩ := List.mem_iff_getElem?.mp ht'
  obtain ⟨t, ht, _, lt⟩ := s.back hk
  obtain ⟨h1, h2⟩ := h t (List.mem_of_getElem? ht)
  have ll := congrArg List.length lt
  rw [List.length_map, List.length_map] at ll
  refine ⟨by rw [ll]; exact h1, fun x' hx' => ?_⟩
  obtain ⟨j, hj⟩ := List.mem_iff_getElem?.mp hx'
  obtain ⟨x, hx, _, sx⟩ := rows_at lt.symm hj
  rw [← sx]
  exact h2 x (List.mem_of_getElem? hx)
/-- whoever changes no names: wake, rest, deal -/
theorem Rel4.same {tm tm' : List Team} {ab : List (Str × Str)} {R : List Row4} (h : Rel4 tm ab R) (s : Same tm tm') (lk : Link tm' ab fun _ => False) : Rel4 tm' ab R where
  abm := h.abm
  tns := by rw [s.names]; exact h.tns
  ent := fun k r hk hh => by
    obtain ⟨i, t, j, x, a1, a2, a3, a4⟩ := h.ent k r hk hh
    obtain ⟨t', b1, b2, _, _, _, b6⟩ := s.at_ i t a1
    obtain ⟨x', c1, c2, _⟩ := rows_at b6 a3
    exact ⟨i, t', j, x', b1, by rw [b2, a2], c1, by rw [c2, a4]⟩
  tr := h.tr.same s
  lk := lk
  sh := same_sh s h.sh
theorem row_inj {s : Int} {R : List Row4} (ok : ROk4 s R) (rl : R.length ≤ 26) {k m : Nat} {r q : Row4} (hk : R[k]? = some r) (hm : R[m]? = some q) (e : r.name = q.name) : k = m := by
  have h1 := (List.getElem?_eq_some_iff.mp hk).1
  have h2 := (List.getElem?_eq_some_iff.mp hm).1
  exact nm13_inj (s := s) (by walk_at "om") (by walk_at "om") (by rw [← ok.nm k r hk, ← ok.nm m q hm, e])
theorem ROk4.ne {s : Int} {R : List Row4} (ok : ROk4 s R) {k : Nat} {r : Row4} (hk : R[k]? = some r) : r.name ≠ "" := fun e => by
  have := (nm13_ok s k).l1
  rw [← ok.nm k r hk, e] at this
  exact absurd this (by decide)
theorem team_of {s : Int} {tm : List Team} {ab : List (Str × Str)} {R : List Row4} (h : Rel4 tm ab R) (ok : ROk4 s R) (rl : R.length ≤ 26) {k : Nat} {r : Row4} (hk : R[k]? = some r) : r.name ∈ tm.map (·.name) ↔ (r.here = true ∧ r.team = true) := by
  rw [h.tns]
  constructor
  · rintro (q | ⟨m, q, h1, h2, h3, h4⟩)
    · exact absurd q (ok.ne hk)
    · have := row_inj ok rl h1 hk h4
      subst this
      rw [Option.some.inj (hk.symm.trans h1)]; exact ⟨h2, h3⟩
  · exact fun q => .inr ⟨k, r, hk, q.1, q.2, rfl⟩
theorem gone_new {s : Int} {tm : List Team} {ab : List (Str × Str)} {R : List Row4} (h : Rel4 tm ab R) (ok : ROk4 s R) (rl : R.length ≤ 26) {k : Nat} {r : Row4} (hk : R[k]? = some r) (hh : r.here = false) : r.name ∉ ab.map (·.1) ∧ r.name ∉ tm.map (·.name) := by
  refine ⟨fun hm => ?_, fun hm => ?_⟩
  · obtain ⟨p, hp, e⟩ := List.mem_map.mp hm
    obtain ⟨m, q, h1, h2, rfl⟩ := (h.abm p).mp hp
    have := row_inj ok rl h1 hk e
    subst this
    rw [Option.some.inj (h1.symm.trans hk), hh] at h2; exact nomatch h2
  · rw [(team_of h ok rl hk).mp hm |>.1] at hh; exact nomatch hh
/-- somebody comes: a hand -/
theorem Rel4.come {s : Int} {tm : List Team} {ab : List (Str × Str)} {R : List Row4} {k i a : Nat} {t : Team} {r : Row4} {share : Int} (h : Rel4 tm ab R) (ok : ROk4 s R) (rl : R.length ≤ 26) (hk : R[k]? = some r) (hh : r.here = false) (hi : tm[i]? = some t) (s0 : 1 ≤ share) (s1 : share ≤ 12) (hl : t.l.length < 1000000) : Rel4 (tm.set i { t with l := t.l ++ [⟨r.name, a, share, 0, false⟩] }) (ab ++ [(r.name, t.name)]) (R.set k { r with up := t.name, team := false, here := true }) := by
  obtain ⟨hna, hnt⟩ := gone_new h ok rl hk hh
  have hkl := (List.getElem?_eq_some_iff.mp hk).1
  have hil := (List.getElem?_eq_some_iff.mp hi).1
  have at_ : ∀ (m : Nat) (q : Row4), (R.set k { r with up := t.name, team := false, here := true })[m]? = some q ↔ (m = k ∧ q = { r with up := t.name, team := false, here := true }) ∨ (m ≠ k ∧ R[m]? = some q) := fun m q => by
    by_cases e : k = m
    · subst e
      rw [List.getElem?_set_self hkl]
      exact ⟨fun w => .inl ⟨rfl, (Option.some.inj w).symm⟩, fun w => w.elim (fun w => by rw [w.2]) fun w => absurd rfl w.1⟩
    · rw [List.getElem?_set_ne e]
      exact ⟨fun w => .inr ⟨Ne.symm e, w⟩, fun w => w.elim (fun w => absurd w.1.symm e) fun w => w.2⟩
  refine ⟨fun p => ?_, fun x => ?_, fun m q hm hq => ?_, tree_enter (y := ⟨r.name, a, share, 0, false⟩) h.tr hi (ok.ne hk), link_enter (y := ⟨r.name, a, share, 0, false⟩) h.lk hi rfl hnt, fun u hu => ?_⟩
  · rw [List.mem_append, h.abm]
    constructor
    · rintro (⟨m, q, h1, h2, h3⟩ | q)
      · refine ⟨m, q, (at_ m q).mpr (.inr ⟨fun e => ?_, h1⟩), h2, h3⟩
        subst e
        rw [Option.some.inj (h1.symm.trans hk), hh] at h2; exact nomatch h2
      · exact ⟨k, _, (at_ k _).mpr (.inl ⟨rfl, rfl⟩), rfl, List.mem_singleton.mp q⟩
    · rintro ⟨m, q, h1, h2, h3⟩
      rcases (at_ m q).mp h1 with ⟨_, rfl⟩ | ⟨_, w⟩
      · exact .inr (List.mem_singleton.mpr h3)
      · exact .inl ⟨m, q, w, h2, h3⟩
  · rw [map_set_same (fun v : Team => v.name) (y := { t with l := t.l ++ [⟨r.name, a, share, 0, false⟩] }) hi rfl, h.tns]
    refine or_congr_right ⟨?_, ?_⟩
    · rintro ⟨m, q, h1, h2, h3⟩
      refine ⟨m, q, (at_ m q).mpr (.inr ⟨fun e => ?_, h1⟩), h2, h3⟩
      subst e
      rw [Option.some.inj (h1.symm.trans hk), hh] at h2; exact nomatch h2
    · rintro ⟨m, q, h1, h2, h3, h4⟩
      rcases (at_ m q).mp h1 with ⟨_, rfl⟩ | ⟨_, w⟩
      · exact nomatch h3
      · exact ⟨m, q, w, h2, h3, h4⟩
  · rcases (at_ m q).mp hm with ⟨_, rfl⟩ | ⟨_, w⟩
    · exact ⟨i, _, t.l.length, ⟨r.name, a, share, 0, false⟩, List.getElem?_set_self hil, rfl, (by show (t.l ++ [_])[t.l.length]? = _; rw [List.getElem?_append_right (Nat.le_refl _), Nat.sub_self]; rfl), rfl⟩
    · obtain ⟨i2, u, j, x, a1, a2, a3, a4⟩ := h.ent m q w hq
      by_cases e : i = i2
      · subst e
        have : u = t := Option.some.inj (a1.symm.trans hi)
        subst this
        exact ⟨i, _, j, x, List.getElem?_set_self hil, a2, (by show (u.l ++ [_])[j]? = _; rw [List.getElem?_append_left (List.getElem?_eq_some_iff.mp a3).1]; exact a3), a4⟩
      · exact ⟨i2, u, j, x, by rw [List.getElem?_set_ne e]; exact a1, a2, a3, a4⟩
  · rcases mem_set_or hu with rfl | ⟨i2, _, hi2⟩
    · obtain ⟨h1, h2⟩ := h.sh t (List.mem_of_getElem? hi)
      refine ⟨by rw [List.length_append]; exact hl, fun x hx => ?_⟩
      rcases List.mem_append.mp hx with e | e
      · exact h2 x e
      · rw [List.mem_singleton.mp e]; exact ⟨s0, s1⟩
    · exact h.sh u (List.mem_of_getElem? hi2)
/-- the hand that came is a team -/
theorem Rel4.comeT {s : Int} {tm : List Team} {ab : List (Str × Str)} {R : List Row4} {k i j W d g : Nat} {t : Team} {r : Row4} {x : Shr} (h : Rel4 tm ab R) (ok : ROk4 s R) (rl : R.length ≤ 26) (hk : R[k]? = some r) (hh : r.here = true) (ht : r.team = false) (hi : tm[i]? = some t) (hj : t.l[j]? = some x) (hx : x.name = r.name) (hr : x.ready = false) (an : (ab.map (·.1)).Nodup) (tn : (tm.map (·.name)).Nodup) (nd : (t.l.map (·.name)).Nodup) : Rel4 (tm ++ [⟨r.name, W, d, g, 0, []⟩]) ab (R.set k { r with team := true }) := by
  have hkl := (List.getElem?_eq_some_iff.mp hk).1
  have at_ : ∀ (m : Nat) (q : Row4), (R.set k { r with team := true })[m]? = some q ↔ (m = k ∧ q = { r with team := true }) ∨ (m ≠ k ∧ R[m]? = some q) := fun m q => by
    by_cases e : k = m
    · subst e
      rw [List.getElem?_set_self hkl]
      exact ⟨fun w => .inl ⟨rfl, (Option.some.inj w).symm⟩, fun w => w.elim (fun w => by rw [w.2]) fun w => absurd rfl w.1⟩
    · rw [List.getElem?_set_ne e]
      exact ⟨fun w => .inr ⟨Ne.symm e, w⟩, fun w => w.elim (fun w => absurd w.1.symm e) fun w => w.2⟩
  have un : ∀ (m : Nat) (q : Row4), (R.set k { r with team := true })[m]? = some q → ∃ q0, R[m]? = some q0 ∧ q.here = q0.here ∧ q.name = q0.name ∧ q.up = q0.up := fun m q hm => by
    rcases (at_ m q).mp hm with ⟨rfl, rfl⟩ | ⟨_, w⟩
    · exact ⟨r, hk, rfl, rfl, rfl⟩
    · exact ⟨q, w, rfl, rfl, rfl⟩
  refine ⟨fun p => ?_, fun y => ?_, fun m q hm hq => ?_, tree_team h.tr rfl hi hj hx, link_team h.lk h.tr an tn rfl hi hj nd hx hr, fun u hu => ?_⟩
  · rw [h.abm]
    constructor
    · rintro ⟨m, q, h1, h2, h3⟩
      by_cases e : m = k
      · subst e
        have : q = r := Option.some.inj (h1.symm.trans hk)
        subst this
        exact ⟨m, _, (at_ m _).mpr (.inl ⟨rfl, rfl⟩), h2, h3⟩
      · exact ⟨m, q, (at_ m q).mpr (.inr ⟨e, h1⟩), h2, h3⟩
    · rintro ⟨m, q, h1, h2, h3⟩
      obtain ⟨q0, b1, b2, b3, b4⟩ := un m q h1
      exact ⟨m, q0, b1, by rw [← b2]; exact h2, by rw [h3, b3, b4]⟩
  · rw [List.map_append, List.mem_append, h.tns]
    constructor
    · rintro ((q | ⟨m, q, h1, h2, h3, h4⟩) | q)
      · exact .inl q
      · refine .inr ⟨m, q, (at_ m q).mpr (.inr ⟨fun e => ?_, h1⟩), h2, h3, h4⟩
        subst e
        rw [Option.some.inj (h1.symm.trans hk), ht] at h3; exact nomatch h3
      · exact .inr ⟨k, _, (at_ k _).mpr (.inl ⟨rfl, rfl⟩), hh, rfl, (List.mem_singleton.mp q).symm⟩
    · rintro (q | ⟨m, q, h1, h2, h3, h4⟩)
      · exact .inl (.inl q)
      · rcases (at_ m q).mp h1 with ⟨_, rfl⟩ | ⟨_, w⟩
        · exact .inr (List.mem_singleton.mpr h4.symm)
        · exact .inl (.inr ⟨m, q, w, h2, h3, h4⟩)
  · obtain ⟨q0, b1, b2, b3, b4⟩ := un m q hm
    obtain ⟨i2, u, j2, x2, a1, a2, a3, a4⟩ := h.ent m q0 b1 (by rw [← b2]; exact hq)
    exact ⟨i2, u, j2, x2, by rw [List.getElem?_append_left (List.getElem?_eq_some_iff.mp a1).1]; exact a1, by rw [a2, b4], a3, by rw [a4, b3]⟩
  · rcases List.mem_append.mp hu with q | q
    · exact h.sh u q
    · rw [List.mem_singleton.mp q]
      exact ⟨Nat.zero_le _, fun x hx => nomatch hx⟩
theorem tree_entry {tm : List Team} {ab : List (Str × Str)} {k j : Nat} {t : Team} {x y : Shr} {p : Int} (tr : Tree tm ab) (hk : tm[k]? = some t) (hj : t.l[j]? = some x) (hy : y.name = x.name) : Tree (tm.set k { t with past := p, l := t.l.set j y }) ab := by
  have at_ : ∀ (i : Nat) (u : Team), tm[i]? = some u → ∃ v : Team, (tm.set k { t with past := p, l := t.l.set j y })[i]? = some v ∧ v.name = u.name ∧ ∀ (m : Nat) (z : Shr), u.l[m]? = some z → ∃ z', v.l[m]? = some z' ∧ z'.name = z.name := fun i u hu => by
    by_cases q : k = i
    · subst q
      have : u = t := Option.some.inj (hu.symm.trans hk)
      subst this
      refine ⟨_, List.getElem?_set_self (List.getElem?_eq_some_iff.mp hk).1, rfl, fun m z hz => ?_⟩
      by_cases e : j = m
      · subst e
        have : z = x := Option.some.inj (hz.symm.trans hj)
        subst this
        exact ⟨y, List.getElem?_set_self (List.getElem?_eq_some_iff.mp hj).1, hy⟩
      · exact ⟨z, (by show (u.l.set j y)[m]? = _; rw [List.getElem?_set_ne e]; exact hz), rfl⟩
    · exact ⟨u, by rw [List.getElem?_set_ne q]; exact hu, rfl, fun m z hz => ⟨z, hz, rfl⟩⟩
  have back : ∀ (i : Nat) (v : Team), (tm.set k { t with past := p, l := t.l.set j y })[i]? = some v → ∃ u : Team, tm[i]? = some u ∧ u.name = v.name ∧ ∀ (m : Nat) (z : Shr), v.l[m]? = some z → ∃ z', u.l[m]? = some z' ∧ z'.name = z.name := fun i v hv => by
    by_cases q : k = i
    · subst q
      rw [List.getElem?_set_self (List.getElem?_eq_some_iff.mp hk).1] at hv
      have := Option.some.inj hv
      subst this
      refine ⟨t, hk, rfl, fun m z hz => ?_⟩
      have hz' : (t.l.set j y)[m]? = some z := hz
      by_cases e : j = m
      · subst e
        rw [List.getElem?_set_self (List.getElem?_eq_some_iff.mp hj).1] at hz'
        have := Option.some.inj hz'
        subst this
        exact ⟨x, hj, hy.symm⟩
      · rw [List.getElem?_set_ne e] at hz'; exact ⟨z, hz', rfl⟩
    · rw [List.getElem?_set_ne q] at hv
      exact ⟨v, hv, rfl, fun m z hz => ⟨z, hz, rfl⟩⟩
  refine ⟨?_, fun i v hv hpos => ?_, fun i v m z hv hz => ?_, tr.top⟩
  · obtain ⟨u, h1, h2⟩ := tr.root
    obtain ⟨v, h3, h4, _⟩ := at_ 0 u h1
    exact ⟨v, h3, h4.trans h2⟩
  · obtain ⟨u, h1, h2, _⟩ := back i v hv
    obtain ⟨i', u', m, z, lt, b1, b2, b3, b4⟩ := tr.up i u h1 hpos
    obtain ⟨v', c1, c2, c3⟩ := at_ i' u' b1
    obtain ⟨z', d1, d2⟩ := c3 m z b3
    exact ⟨i', v', m, z', lt, c1, by rw [← h2, c2]; exact b2, d1, by rw [d2, b4, h2]⟩
  · obtain ⟨u, h1, h2, h3⟩ := back i v hv
    obtain ⟨z', d1, d2⟩ := h3 m z hz
    rw [← h2, ← d2]
    exact tr.mem i u m z' h1 d1
theorem erase_at {α : Type} {l : List α} {i k : Nat} {t : α} : (l.eraseIdx i)[k]? = some t ↔ (k < i ∧ l[k]? = some t) ∨ (i ≤ k ∧ l[k + 1]? = some t) := by
  rw [List.getElem?_eraseIdx]
  split
  · rename_i h
    exact ⟨fun q => .inl ⟨h, q⟩, fun q => q.elim (fun q => q.2) fun q => absurd h (by walk_at "om")⟩
  · rename_i h
    exact ⟨fun q => .inr ⟨by walk_at "om", q⟩, fun q => q.elim (fun q => absurd q.1 h) fun q => q.2⟩
theorem erase_to {α : Type} {l : List α} {i k : Nat} {t : α} (h : l[k]? = some t) (n : k ≠ i) : ∃ k', (l.eraseIdx i)[k']? = some t ∧ (k' = k ∧ k < i ∨ k' + 1 = k ∧ i < k) := by
  by_cases q : k < i
  · exact ⟨k, erase_at.mpr (.inl ⟨q, h⟩), .inl ⟨rfl, q⟩⟩
  · obtain ⟨m, rfl⟩ : ∃ m, k = m + 1 := ⟨k - 1, by walk_at "om"⟩
    exact ⟨m, erase_at.mpr (.inr ⟨by walk_at "om", h⟩), .inr ⟨rfl, by walk_at "om"⟩⟩
/-- an empty team goes -/
theorem tree_drop {tm : List Team} {ab : List (Str × Str)} {i : Nat} {u : Team} (tr : Tree tm ab) (hi : tm[i]? = some u) (hu : u.l = []) (pos : 0 < i) : Tree (tm.eraseIdx i) ab := by
  refine ⟨?_, fun k t hk hpos => ?_, fun k t j x hk hj => ?_, tr.top⟩
  · obtain ⟨t, h1, h2⟩ := tr.root
    exact ⟨t, erase_at.mpr (.inl ⟨pos, h1⟩), h2⟩
  · have key : ∀ m, tm[m]? = some t → 0 < m → (∀ k' : Nat, k' < m → k' ≠ i → ∃ k2, k2 < k ∧ ∀ t', tm[k']? = some t' → (tm.eraseIdx i)[k2]? = some t') → ∃ (k' : Nat) (t' : Team) (j : Nat) (x : Shr), k' < k ∧ (tm.eraseIdx i)[k']? = some t' ∧ (t.name, t'.name) ∈ ab ∧ t'.l[j]? = some x ∧ x.name = t.name := fun m hm mp hmap => by
      obtain ⟨k', t', j, x, lt, b1, b2, b3, b4⟩ := tr.up m t hm mp
      have hne : k' ≠ i := fun e => by
        subst e
        have : t' = u := Option.some.inj (b1.symm.trans hi)
        rw [this, hu] at b3; simp at b3
      obtain ⟨k2, lt2, h2⟩ := hmap k' lt hne
      exact ⟨k2, t', j, x, lt2, h2 t' b1, b2, b3, b4⟩
    rcases erase_at.mp hk with ⟨q1, q2⟩ | ⟨q1, q2⟩
    · exact key k q2 hpos fun k' lt hne => ⟨k', lt, fun t' h => erase_at.mpr (.inl ⟨by walk_at "om", h⟩)⟩
    · refine key (k + 1) q2 (Nat.succ_pos _) fun k' lt hne => ?_
      by_cases q : k' < i
      · exact ⟨k', by walk_at "om", fun t' h => erase_at.mpr (.inl ⟨q, h⟩)⟩
      · obtain ⟨m, rfl⟩ : ∃ m, k' = m + 1 := ⟨k' - 1, by walk_at "om"⟩
        exact ⟨m, by walk_at "om", fun t' h => erase_at.mpr (.inr ⟨by walk_at "om", h⟩)⟩
  · rcases erase_at.mp hk with ⟨_, q⟩ | ⟨_, q⟩
    · exact tr.mem k t j x q hj
    · exact tr.mem (k + 1) t j x q hj
theorem link_drop {tm : List Team} {ab : List (Str × Str)} {i : Nat} (lk : Link tm ab fun _ => False) : Link (tm.eraseIdx i) ab fun _ => False := by
  have b : ∀ (k : Nat) (t : Team), (tm.eraseIdx i)[k]? = some t → ∃ m, tm[m]? = some t := fun k t h => by
    rcases erase_at.mp h with ⟨_, q⟩ | ⟨_, q⟩
    · exact ⟨_, q⟩
    · exact ⟨_, q⟩
  intro k t k' t' j x h1 _ h2 h3 h4 h5
  obtain ⟨m, hm⟩ := b k t h1
  obtain ⟨m', hm'⟩ := b k' t' h3
  exact lk m t m' t' j x hm (fun q => q) h2 hm' h4 h5
theorem anyR_erase {l : List Shr} {j : Nat} {x : Shr} (hj : l[j]? = some x) (hr : x.ready = false) : anyR (l.eraseIdx j) = anyR l := by
  unfold anyR
  rw [Bool.eq_iff_iff, List.any_eq_true, List.any_eq_true]
  constructor
  · rintro ⟨y, hy, e⟩
    exact ⟨y, (List.eraseIdx_sublist l j).subset hy, e⟩
  · rintro ⟨y, hy, e⟩
    obtain ⟨m, hm⟩ := List.mem_iff_getElem?.mp hy
    have hne : m ≠ j := fun q => by subst q; rw [Option.some.inj (hm.symm.trans hj), hr] at e; exact nomatch e
    obtain ⟨k', h1, _⟩ := erase_to hm hne
    exact ⟨y, List.mem_of_getElem? h1, e⟩
/-- a hand goes -/
theorem tree_erase {tm : List Team} {ab : List (Str × Str)} {k j : Nat} {t : Team} {x : Shr} (tr : Tree tm ab) (an : (ab.map (·.1)).Nodup) (tn : (tm.map (·.name)).Nodup) (nd : ∀ t ∈ tm, (t.l.map (·.name)).Nodup) (hk : tm[k]? = some t) (hj : t.l[j]? = some x) (hn : x.name ∉ tm.map (·.name)) : Tree (tm.set k { t with l := t.l.eraseIdx j }) (ab.filter fun p => decide (p.1 ≠ x.name)) := by
  have hkl := (List.getElem?_eq_some_iff.mp hk).1
  have back : ∀ (i : Nat) (v : Team), (tm.set k { t with l := t.l.eraseIdx j })[i]? = some v → ∃ u : Team, tm[i]? = some u ∧ u.name = v.name ∧ ∀ (m : Nat) (z : Shr), v.l[m]? = some z → ∃ m', u.l[m']? = some z ∧ ¬ (i = k ∧ m' = j) := fun i v hv => by
    by_cases q : k = i
    · subst q
      rw [List.getElem?_set_self hkl] at hv
      have := Option.some.inj hv
      subst this
      refine ⟨t, hk, rfl, fun m z hz => ?_⟩
      rcases erase_at.mp (show (t.l.eraseIdx j)[m]? = some z from hz) with ⟨q1, q2⟩ | ⟨q1, q2⟩
      · exact ⟨m, q2, fun w => by walk_at "om"⟩
      · exact ⟨m + 1, q2, fun w => by walk_at "om"⟩
    · rw [List.getElem?_set_ne q] at hv
      exact ⟨v, hv, rfl, fun m z hz => ⟨m, hz, fun w => q w.1.symm⟩⟩
  refine ⟨?_, fun i v hv hpos => ?_, fun i v m z hv hz => ?_, fun hm => ?_⟩
  · obtain ⟨u, h1, h2⟩ := tr.root
    by_cases q : k = 0
    · subst q
      have : u = t := Option.some.inj (h1.symm.trans hk)
      subst this
      exact ⟨_, List.getElem?_set_self hkl, h2⟩
    · exact ⟨u, by rw [List.getElem?_set_ne q]; exact h1, h2⟩
  · obtain ⟨u, h1, h2, _⟩ := back i v hv
    obtain ⟨i', u', m, z, lt, b1, b2, b3, b4⟩ := tr.up i u h1 hpos
    have hzn : z.name ≠ x.name := fun e => hn (by rw [← e, b4]; exact List.mem_map.mpr ⟨u, List.mem_of_getElem? h1, rfl⟩)
    have hmem : (v.name, u'.name) ∈ ab.filter fun p => decide (p.1 ≠ x.name) := List.mem_filter.mpr ⟨by rw [← h2]; exact b2, decide_eq_true (by show v.name ≠ x.name; rw [← h2, ← b4]; exact hzn)⟩
    by_cases q : k = i'
    · subst q
      have : u' = t := Option.some.inj (b1.symm.trans hk)
      subst this
      have hne : m ≠ j := fun e => by subst e; rw [Option.some.inj (b3.symm.trans hj)] at hzn; exact hzn rfl
      obtain ⟨m', c1, _⟩ := erase_to b3 hne
      exact ⟨k, _, m', z, lt, List.getElem?_set_self hkl, hmem, c1, by rw [b4, h2]⟩
    · exact ⟨i', u', m, z, lt, by rw [List.getElem?_set_ne q]; exact b1, hmem, b3, by rw [b4, h2]⟩
  · obtain ⟨u, h1, h2, h3⟩ := back i v hv
    obtain ⟨m', d1, d2⟩ := h3 m z hz
    rw [← h2]
    refine List.mem_filter.mpr ⟨tr.mem i u m' z h1 d1, decide_eq_true fun e => d2 ?_⟩
    have e1 := uniq tr an tn h1 d1 hk hj e
    subst e1
    have : u = t := Option.some.inj (h1.symm.trans hk)
    subst this
    exact ⟨rfl, nodup_at (nd u (List.mem_of_getElem? hk)) d1 hj e⟩
  · obtain ⟨p, hp, e⟩ := List.mem_map.mp hm
    exact tr.top (List.mem_map.mpr ⟨p, (List.mem_filter.mp hp).1, e⟩)
theorem link_erase {tm : List Team} {ab : List (Str × Str)} {k j : Nat} {t : Team} {x : Shr} (lk : Link tm ab fun _ => False) (hk : tm[k]? = some t) (hj : t.l[j]? = some x) (hr : x.ready = false) : Link (tm.set k { t with l := t.l.eraseIdx j }) (ab.filter fun p => decide (p.1 ≠ x.name)) fun _ => False := by
  have hkl := (List.getElem?_eq_some_iff.mp hk).1
  have back : ∀ (i : Nat) (v : Team), (tm.set k { t with l := t.l.eraseIdx j })[i]? = some v → ∃ u : Team, tm[i]? = some u ∧ u.name = v.name ∧ anyR v.l = anyR u.l ∧ ∀ (m : Nat) (z : Shr), v.l[m]? = some z → ∃ m', u.l[m']? = some z := fun i v hv => by
    by_cases q : k = i
    · subst q
      rw [List.getElem?_set_self hkl] at hv
      have := Option.some.inj hv
      subst this
      refine ⟨t, hk, rfl, anyR_erase hj hr, fun m z hz => ?_⟩
      rcases erase_at.mp (show (t.l.eraseIdx j)[m]? = some z from hz) with ⟨q1, q2⟩ | ⟨q1, q2⟩
      · exact ⟨m, q2⟩
      · exact ⟨m + 1, q2⟩
    · rw [List.getElem?_set_ne q] at hv
      exact ⟨v, hv, rfl, rfl, fun m z hz => ⟨m, hz⟩⟩
  intro k3 t3 k4 t4 i z h3 _ h34 h4 hi hz
  obtain ⟨u3, a1, a2, a3, _⟩ := back k3 t3 h3
  obtain ⟨u4, b1, b2, _, b4⟩ := back k4 t4 h4
  obtain ⟨m', c1⟩ := b4 i z hi
  rw [a3]
  exact lk k3 u3 k4 u4 m' z a1 (fun q => q) (by rw [a2, b2]; exact (List.mem_filter.mp h34).1) b1 c1 (by rw [hz, a2])
theorem sht_erase {tm : List Team} {k j : Nat} {t : Team} (h : ShT tm) (hk : tm[k]? = some t) : ShT (tm.set k { t with l := t.l.eraseIdx j }) := fun u hu => by
  rcases mem_set_or hu with rfl | ⟨i, _, hi⟩
  · obtain ⟨h1, h2⟩ := h t (List.mem_of_getElem? hk)
    have sub := List.eraseIdx_sublist t.l j
    exact ⟨Nat.le_trans sub.length_le h1, fun x hx => h2 x (sub.subset hx)⟩
  · exact h u (List.mem_of_getElem? hi)
theorem set_at4 {R : List Row4} {k : Nat} {r r' : Row4} (hk : R[k]? = some r) (m : Nat) (q : Row4) : (R.set k r')[m]? = some q ↔ (m = k ∧ q = r') ∨ (m ≠ k ∧ R[m]? = some q) := by
  have hkl := (List.getElem?_eq_some_iff.mp hk).1
  by_cases e : k = m
  · subst e
    rw [List.getElem?_set_self hkl]
    exact ⟨fun w => .inl ⟨rfl, (Option.some.inj w).symm⟩, fun w => w.elim (fun w => by rw [w.2]) fun w => absurd rfl w.1⟩
  · rw [List.getElem?_set_ne e]
    exact ⟨fun w => .inr ⟨Ne.symm e, w⟩, fun w => w.elim (fun w => absurd w.1.symm e) fun w => w.2⟩
/-- a row of one who is not there may change -/
theorem Rel4.alter {tm : List Team} {ab : List (Str × Str)} {R : List Row4} {k : Nat} {r r' : Row4} (h : Rel4 tm ab R) (hk : R[k]? = some r) (h0 : r.here = false) (h1 : r'.here = false) : Rel4 tm ab (R.set k r') := by
  have iff : ∀ (P : Row4 → Prop), (∃ (m : Nat) (q : Row4), R[m]? = some q ∧ q.here = true ∧ P q) ↔ ∃ (m : Nat) (q : Row4), (R.set k r')[m]? = some q ∧ q.here = true ∧ P q := fun P => by
    constructor
    · rintro ⟨m, q, a1, a2, a3⟩
      refine ⟨m, q, (set_at4 hk m q).mpr (.inr ⟨fun e => ?_, a1⟩), a2, a3⟩
      subst e
      rw [Option.some.inj (a1.symm.trans hk), h0] at a2; exact nomatch a2
    · rintro ⟨m, q, a1, a2, a3⟩
      rcases (set_at4 hk m q).mp a1 with ⟨_, rfl⟩ | ⟨_, w⟩
      · rw [h1] at a2; exact nomatch a2
      · exact ⟨m, q, w, a2, a3⟩
  refine ⟨fun p => (h.abm p).trans (iff fun q => p = (q.name, q.up)), fun x => (h.tns x).trans (or_congr_right (iff fun q => q.team = true ∧ q.name = x)), fun m q a1 a2 => ?_, h.tr, h.lk, h.sh⟩
  rcases (set_at4 hk m q).mp a1 with ⟨_, rfl⟩ | ⟨_, w⟩
  · rw [h1] at a2; exact nomatch a2
  · exact h.ent m q w a2
theorem ROk4.alter {s : Int} {R : List Row4} {k : Nat} {r r' : Row4} (ok : ROk4 s R) (hk : R[k]? = some r) (e : r'.name = r.name) : ROk4 s (R.set k r') := ⟨fun m q hm => by
  rcases (set_at4 hk m q).mp hm with ⟨rfl, rfl⟩ | ⟨_, w⟩
  · rw [e]; exact ok.nm m r hk
  · exact ok.nm m q w⟩
/-- another share -/
theorem Rel4.resh {tm : List Team} {ab : List (Str × Str)} {R : List Row4} {k j : Nat} {t : Team} {x y : Shr} (h : Rel4 tm ab R) (hk : tm[k]? = some t) (hj : t.l[j]? = some x) (hn : y.name = x.name) (hr : y.ready = x.ready) (s0 : 1 ≤ y.share) (s1 : y.share ≤ 12) : Rel4 (tm.set k { t with past := t.past, l := t.l.set j y }) ab R := by
  refine ⟨h.abm, by rw [map_set_same (fun v : Team => v.name) (y := { t with past := t.past, l := t.l.set j y }) hk rfl]; exact h.tns, fun m q a1 a2 => ?_, tree_entry h.tr hk hj hn, link_clock h.lk hk hj hn hr, fun u hu => ?_⟩
  · obtain ⟨i, u, j2, x2, b1, b2, b3, b4⟩ := h.ent m q a1 a2
    by_cases e : k = i
    · subst e
      have : u = t := Option.some.inj (b1.symm.trans hk)
      subst this
      by_cases e2 : j = j2
      · subst e2
        have : x2 = x := Option.some.inj (b3.symm.trans hj)
        subst this
        exact ⟨k, _, j, y, List.getElem?_set_self (List.getElem?_eq_some_iff.mp hk).1, b2, List.getElem?_set_self (List.getElem?_eq_some_iff.mp hj).1, by rw [hn, b4]⟩
      · exact ⟨k, _, j2, x2, List.getElem?_set_self (List.getElem?_eq_some_iff.mp hk).1, b2, (by show (u.l.set j y)[j2]? = _; rw [List.getElem?_set_ne e2]; exact b3), b4⟩
    · exact ⟨i, u, j2, x2, by rw [List.getElem?_set_ne e]; exact b1, b2, b3, b4⟩
  · rcases mem_set_or hu with rfl | ⟨i, _, hi⟩
    · obtain ⟨h1, h2⟩ := h.sh t (List.mem_of_getElem? hk)
      refine ⟨by rw [List.length_set]; exact h1, fun z hz => ?_⟩
      rcases mem_set_or hz with rfl | ⟨m, _, hm⟩
      · exact ⟨s0, s1⟩
      · exact h2 z (List.mem_of_getElem? hm)
    · exact h.sh u (List.mem_of_getElem? hi)
/-- an empty team goes, its mark first -/
theorem Rel4.dropT {s : Int} {tm : List Team} {ab : List (Str × Str)} {R : List Row4} {k i : Nat} {u : Team} {r : Row4} (h : Rel4 tm ab R) (ok : ROk4 s R) (rl : R.length ≤ 26) (tn : (tm.map (·.name)).Nodup) (hk : R[k]? = some r) (hh : r.here = true) (hi : tm[i]? = some u) (hu : u.l = []) (un : u.name = r.name) : Rel4 (tm.eraseIdx i) ab (R.set k { r with team := false }) := by
  have pos : 0 < i := Nat.pos_of_ne_zero fun e => by
    subst e
    obtain ⟨t, h1, h2⟩ := h.tr.root
    have : t = u := Option.some.inj (h1.symm.trans hi)
    rw [this, un] at h2
    exact ok.ne hk h2
  have unq : ∀ (m : Nat) (q : Row4), (R.set k { r with team := false })[m]? = some q → ∃ q0, R[m]? = some q0 ∧ q.here = q0.here ∧ q.name = q0.name ∧ q.up = q0.up := fun m q hm => by
    rcases (set_at4 hk m q).mp hm with ⟨rfl, rfl⟩ | ⟨_, w⟩
    · exact ⟨r, hk, rfl, rfl, rfl⟩
    · exact ⟨q, w, rfl, rfl, rfl⟩
  refine ⟨fun p => ?_, fun x => ?_, fun m q hm hq => ?_, tree_drop h.tr hi hu pos, link_drop h.lk, fun v hv => h.sh v ((List.eraseIdx_sublist tm i).subset hv)⟩
  · rw [h.abm]
    constructor
    · rintro ⟨m, q, h1, h2, h3⟩
      by_cases e : m = k
      · subst e
        have : q = r := Option.some.inj (h1.symm.trans hk)
        subst this
        exact ⟨m, _, (set_at4 hk m _).mpr (.inl ⟨rfl, rfl⟩), h2, h3⟩
      · exact ⟨m, q, (set_at4 hk m q).mpr (.inr ⟨e, h1⟩), h2, h3⟩
    · rintro ⟨m, q, h1, h2, h3⟩
      obtain ⟨q0, b1, b2, b3, b4⟩ := unq m q h1
      exact ⟨m, q0, b1, by rw [← b2]; exact h2, by rw [h3, b3, b4]⟩
  · have nm : x ∈ (tm.eraseIdx i).map (·.name) ↔ (x ∈ tm.map (·.name) ∧ x ≠ r.name) := by
      rw [← filter_erase tn hi, un]
      constructor
      · intro w
        obtain ⟨v, hv, e⟩ := List.mem_map.mp w
        obtain ⟨a1, a2⟩ := List.mem_filter.mp hv
        exact ⟨List.mem_map.mpr ⟨v, a1, e⟩, by rw [← e]; exact of_decide_eq_true a2⟩
      · rintro ⟨w, ne⟩
        obtain ⟨v, hv, e⟩ := List.mem_map.mp w
        exact List.mem_map.mpr ⟨v, List.mem_filter.mpr ⟨hv, decide_eq_true (by rw [e]; exact ne)⟩, e⟩
    rw [nm, h.tns]
    constructor
    · rintro ⟨q | ⟨m, q, h1, h2, h3, h4⟩, ne⟩
      · exact .inl q
      · refine .inr ⟨m, q, (set_at4 hk m q).mpr (.inr ⟨fun e => ?_, h1⟩), h2, h3, h4⟩
        subst e
        rw [← h4, Option.some.inj (h1.symm.trans hk)] at ne
        exact ne rfl
    · rintro (q | ⟨m, q, h1, h2, h3, h4⟩)
      · exact ⟨.inl q, fun e => ok.ne hk (by rw [← e, q])⟩
      · rcases (set_at4 hk m q).mp h1 with ⟨_, rfl⟩ | ⟨ne, w⟩
        · exact nomatch h3
        · exact ⟨.inr ⟨m, q, w, h2, h3, h4⟩, fun e => ne (row_inj ok rl w hk (by rw [h4, e]))⟩
  · obtain ⟨q0, b1, b2, b3, b4⟩ := unq m q hm
    obtain ⟨i2, v, j2, x2, a1, a2, a3, a4⟩ := h.ent m q0 b1 (by rw [← b2]; exact hq)
    have hne : i2 ≠ i := fun e => by
      subst e
      have : v = u := Option.some.inj (a1.symm.trans hi)
      rw [this, hu] at a3; simp at a3
    obtain ⟨k', c1, _⟩ := erase_to a1 hne
    exact ⟨k', v, j2, x2, c1, by rw [a2, b4], a3, by rw [a4, b3]⟩
/-- a hand goes -/
theorem Rel4.gone {s : Int} {tm : List Team} {ab : List (Str × Str)} {R : List Row4} {k i j : Nat} {t : Team} {x : Shr} {r : Row4} (h : Rel4 tm ab R) (ok : ROk4 s R) (rl : R.length ≤ 26) (nd : Ndp tm) (an : (ab.map (·.1)).Nodup) (hk : R[k]? = some r) (hh : r.here = true) (ht : r.team = false) (hi : tm[i]? = some t) (hj : t.l[j]? = some x) (hx : x.name = r.name) (hr : x.ready = false) : Rel4 (tm.set i { t with l := t.l.eraseIdx j }) (ab.filter fun p => decide (p.1 ≠ x.name)) (R.set k { r with here := false }) := by
  have hn : x.name ∉ tm.map (·.name) := by rw [hx, team_of h ok rl hk, ht]; exact fun q => nomatch q.2
  have hil := (List.getElem?_eq_some_iff.mp hi).1
  refine ⟨fun p => ?_, fun y => ?_, fun m q hm hq => ?_, tree_erase h.tr an nd.tn nd.nn hi hj hn, link_erase h.lk hi hj hr, sht_erase h.sh hi⟩
  · rw [List.mem_filter, h.abm, hx]
    constructor
    · rintro ⟨⟨m, q, h1, h2, h3⟩, ne⟩
      have ne' := of_decide_eq_true ne
      refine ⟨m, q, (set_at4 hk m q).mpr (.inr ⟨fun e => ne' ?_, h1⟩), h2, h3⟩
      subst e
      rw [h3, Option.some.inj (h1.symm.trans hk)]
    · rintro ⟨m, q, h1, h2, h3⟩
      rcases (set_at4 hk m q).mp h1 with ⟨_, rfl⟩ | ⟨ne, w⟩
      · exact nomatch h2
      · exact ⟨⟨m, q, w, h2, h3⟩, decide_eq_true fun e => ne (row_inj ok rl w hk (by rw [h3] at e; exact e))⟩
  · rw [map_set_same (fun v : Team => v.name) (y := { t with l := t.l.eraseIdx j }) hi rfl, h.tns]
    refine or_congr_right ⟨?_, ?_⟩
    · rintro ⟨m, q, h1, h2, h3, h4⟩
      refine ⟨m, q, (set_at4 hk m q).mpr (.inr ⟨fun e => ?_, h1⟩), h2, h3, h4⟩
      subst e
      rw [Option.some.inj (h1.symm.trans hk), ht] at h3; exact nomatch h3
    · rintro ⟨m, q, h1, h2, h3, h4⟩
      rcases (set_at4 hk m q).mp h1 with ⟨_, rfl⟩ | ⟨_, w⟩
      · exact nomatch h2
      · exact ⟨m, q, w, h2, h3, h4⟩
  · rcases (set_at4 hk m q).mp hm with ⟨_, rfl⟩ | ⟨ne, w⟩
    · exact nomatch hq
    · obtain ⟨i2, v, j2, x2, a1, a2, a3, a4⟩ := h.ent m q w hq
      by_cases e : i = i2
      · subst e
        have : v = t := Option.some.inj (a1.symm.trans hi)
        subst this
        have hne : j2 ≠ j := fun e2 => by
          subst e2
          rw [Option.some.inj (a3.symm.trans hj), hx] at a4
          exact ne (row_inj ok rl w hk a4.symm)
        obtain ⟨k', c1, _⟩ := erase_to a3 hne
        exact ⟨i, _, k', x2, List.getElem?_set_self hil, a2, c1, a4⟩
      · exact ⟨i2, v, j2, x2, by rw [List.getElem?_set_ne e]; exact a1, a2, a3, a4⟩
/-- how much there is -/
structure Bd (N : Nat) (tm : List Team) (ab : List (Str × Str)) : Prop where
  tl : tm.length ≤ N
  al : ab.length ≤ N
  g : ∀ t ∈ tm, t.g ≤ 100 + N
  l : ∀ t ∈ tm, t.l.length ≤ N
theorem Bd.up {N M : Nat} {tm : List Team} {ab : List (Str × Str)} (h : Bd N tm ab) (k : N ≤ M) : Bd M tm ab := ⟨Nat.le_trans h.tl k, Nat.le_trans h.al k, fun t ht => Nat.le_trans (h.g t ht) (by walk_at "om"), fun t ht => Nat.le_trans (h.l t ht) k⟩
theorem Bd.same {N : Nat} {tm tm' : List Team} {ab : List (Str × Str)} (h : Bd N tm ab) (s : Same tm tm') : Bd N tm' ab := by
  refine ⟨by rw [s.len]; exact h.tl, h.al, fun u hu => ?_, fun u hu => ?_⟩
  · obtain ⟨k, hk⟩ := List.mem_iff_getElem?.mp hu
    obtain ⟨t, ht, e⟩ := List.mem_map.mp (gs_mem s hk)
    rw [← e]; exact h.g t ht
  · obtain ⟨k, hk⟩ := List.mem_iff_getElem?.mp hu
    obtain ⟨t, ht, _, lt⟩ := s.back hk
    have ll := congrArg List.length lt
    rw [List.length_map, List.length_map] at ll
    rw [ll]; exact h.l t (List.mem_of_getElem? ht)
theorem Bd.set {N k : Nat} {tm : List Team} {ab : List (Str × Str)} {t t' : Team} (h : Bd N tm ab) (hk : tm[k]? = some t) (g : t'.g = t.g) (l : t'.l.length ≤ N) : Bd N (tm.set k t') ab := by
  refine ⟨by rw [List.length_set]; exact h.tl, h.al, fun u hu => ?_, fun u hu => ?_⟩
  · rcases mem_set_or hu with rfl | ⟨i, _, hi⟩
    · rw [g]; exact h.g t (List.mem_of_getElem? hk)
    · exact h.g u (List.mem_of_getElem? hi)
  · rcases mem_set_or hu with rfl | ⟨i, _, hi⟩
    · exact l
    · exact h.l u (List.mem_of_getElem? hi)
theorem row_okn {s : Int} {R : List Row4} (ok : ROk4 s R) {k : Nat} {r : Row4} (hk : R[k]? = some r) : okN r.name := by rw [ok.nm k r hk]; exact nm13_ok s k
theorem come_hand {H dw da k N : Nat} {s share : Int} {tm : List Team} {ab : List (Str × Str)} {R : List Row4} {r : Row4} {up : Str} (h : HouseD σ H dw da tm ab) (rel : Rel4 tm ab R) (ok : ROk4 s R) (rl : R.length ≤ 26) (bd : Bd N tm ab) (hN : N ≤ 500) (hk : R[k]? = some r) (hh : r.here = false) (hup : up ∈ tm.map (·.name)) (s0 : 1 ≤ share) (s1 : share ≤ 12)
    (hq : ∀ tm' ab' σ', HouseD σ' H dw da tm' ab' → Rel4 tm' ab' (R.set k { r with up := up, team := false, here := true }) → Bd (N + 1) tm' ab' → KpH σ σ' → Q .none σ') : WFn (cx w mean mg mb) ⟨n + 5, true, sc⟩ m_House_hand [.ref H, .str r.name, .str up, .int share] ρ Q X σ := by
  obtain ⟨t, ht, et⟩ := List.mem_map.mp hup
  obtain ⟨i, hi⟩ := List.mem_iff_getElem?.mp ht
  obtain ⟨hna, hnt⟩ := gone_new rel ok rl hk hh
  have okn := row_okn ok hk
  have hal := bd.al
  have htl := bd.l t ht
  have hnt2 : r.name ∉ t.l.map (·.name) := fun hx => by
    obtain ⟨y, hy, e⟩ := List.mem_map.mp hx
    obtain ⟨m, hm⟩ := List.mem_iff_getElem?.mp hy
    exact hna (List.mem_map.mpr ⟨_, rel.tr.mem i t m y hi hm, e⟩)
  subst et
  refine hand_ok h (by have := okn.l8; walk_at "om") okn.le.ascii okn.good hna hi s0 s1 hnt2 (by walk_at "om") (by walk_at "om") fun a σ' h' k' => ?_
  refine hq _ _ σ' h' (rel.come ok rl hk hh hi s0 s1 (by walk_at "om")) ?_ k'
  have b1 := (bd.up (Nat.le_succ N)).set (t' := { t with l := t.l ++ [⟨r.name, a, share, 0, false⟩] }) hi rfl (by rw [List.length_append]; exact Nat.succ_le_succ htl)
  exact ⟨b1.tl, by rw [List.length_append]; exact Nat.succ_le_succ hal, b1.g, b1.l⟩
theorem come_team {H dw da k N : Nat} {s share : Int} {tm : List Team} {ab : List (Str × Str)} {R : List Row4} {r : Row4} {up : Str} (h : HouseD σ H dw da tm ab) (rel : Rel4 tm ab R) (ok : ROk4 s R) (rl : R.length ≤ 26) (bd : Bd N tm ab) (hN : N ≤ 500) (hk : R[k]? = some r) (hh : r.here = false) (hup : up ∈ tm.map (·.name)) (s0 : 1 ≤ share) (s1 : share ≤ 12)
    (hq : ∀ tm' ab' σ', HouseD σ' H dw da tm' ab' → Rel4 tm' ab' (R.set k { r with up := up, team := true, here := true }) → Bd (N + 1) tm' ab' → KpH σ σ' → Q .none σ') : WFn (cx w mean mg mb) ⟨n + 5, true, sc⟩ m_House_team [.ref H, .str r.name, .str up, .int share] ρ Q X σ := by
  obtain ⟨t, ht, et⟩ := List.mem_map.mp hup
  obtain ⟨i, hi⟩ := List.mem_iff_getElem?.mp ht
  obtain ⟨hna, hnt⟩ := gone_new rel ok rl hk hh
  have okn := row_okn ok hk
  have hal := bd.al
  have htl := bd.l t ht
  have htt := bd.tl
  have hnt2 : r.name ∉ t.l.map (·.name) := fun hx => by
    obtain ⟨y, hy, e⟩ := List.mem_map.mp hx
    obtain ⟨m, hm⟩ := List.mem_iff_getElem?.mp hy
    exact hna (List.mem_map.mpr ⟨_, rel.tr.mem i t m y hi hm, e⟩)
  subst et
  have hgn : 101 + N ∉ tm.map (·.g) := fun hx => by
    obtain ⟨v, hv, e⟩ := List.mem_map.mp hx
    have := bd.g v hv
    walk_at "om"
  refine team_ok (101 + N) (by walk_at "om") h hgn (by have := okn.l8; walk_at "om") okn.le.ascii okn.good hna hnt hi s0 s1 hnt2 (by walk_at "om") (by walk_at "om") (by walk_at "om") fun a W' d' σ' h' k' => ?_
  have b1 := (bd.up (Nat.le_succ N)).set (t' := { t with l := t.l ++ [⟨r.name, a, share, 0, false⟩] }) hi rfl (by rw [List.length_append]; exact Nat.succ_le_succ htl)
  have rel1 := rel.come (a := a) ok rl hk hh hi s0 s1 (by walk_at "om")
  have hil := (List.getElem?_eq_some_iff.mp hi).1
  have hi1 : (tm.set i { t with l := t.l ++ [⟨r.name, a, share, 0, false⟩] })[i]? = some { t with l := t.l ++ [⟨r.name, a, share, 0, false⟩] } := List.getElem?_set_self hil
  have hj1 : (t.l ++ [(⟨r.name, a, share, 0, false⟩ : Shr)])[t.l.length]? = some ⟨r.name, a, share, 0, false⟩ := by rw [List.getElem?_append_right (Nat.le_refl _), Nat.sub_self]; rfl
  have nd1 := (h'.whl { t with l := t.l ++ [⟨r.name, a, share, 0, false⟩] } (List.mem_append.mpr (.inl (List.mem_of_getElem? hi1)))).nn
  have tn1 : ((tm.set i { t with l := t.l ++ [⟨r.name, a, share, 0, false⟩] }).map (·.name)).Nodup := by rw [map_set_same (fun v : Team => v.name) (y := { t with l := t.l ++ [⟨r.name, a, share, 0, false⟩] }) hi rfl]; exact h.tn
  have hk1 : (R.set k { r with up := t.name, team := false, here := true })[k]? = some { r with up := t.name, team := false, here := true } := List.getElem?_set_self (List.getElem?_eq_some_iff.mp hk).1
  have rel2 := Rel4.comeT (W := W') (d := d') (g := 101 + N) rel1 (ok.alter hk rfl) (by rw [List.length_set]; exact rl) hk1 rfl rfl hi1 hj1 rfl rfl h'.an tn1 nd1
  rw [List.set_set] at rel2
  refine hq _ _ σ' h' rel2 ⟨?_, by rw [List.length_append]; exact Nat.succ_le_succ hal, fun u hu => ?_, fun u hu => ?_⟩ k'
  · rw [List.length_append, List.length_set]; exact Nat.succ_le_succ htt
  · rcases List.mem_append.mp hu with q | q
    · exact b1.g u q
    · rw [List.mem_singleton.mp q]; show 101 + N ≤ _; walk_at "om"
  · rcases List.mem_append.mp hu with q | q
    · exact b1.l u q
    · rw [List.mem_singleton.mp q]; exact Nat.zero_le _
theorem lwake_c {H dw da k N : Nat} {s : Int} {tm : List Team} {ab : List (Str × Str)} {R : List Row4} {r : Row4} (h : HouseD σ H dw da tm ab) (rel : Rel4 tm ab R) (ok : ROk4 s R) (rl : R.length ≤ 26) (bd : Bd N tm ab) (hk : R[k]? = some r) (hh : r.here = true) (ht : r.team = false)
    (hq : ∀ tm' σ' v, HouseD σ' H dw da tm' ab → Rel4 tm' ab R → Bd N tm' ab → KpH σ σ' → Q v σ') : WFn (cx w mean mg mb) ⟨n + 4, true, sc⟩ m_House_wake [.ref H, .str r.name] ρ Q X σ := by
  obtain ⟨i, t, j, x, a1, a2, a3, a4⟩ := rel.ent k r hk hh
  have hn : x.name ∉ tm.map (·.name) := by rw [a4, team_of rel ok rl hk, ht]; exact fun q => nomatch q.2
  rw [← a4]
  refine hwake_c h rel.tr rel.lk a1 a3 hn fun tm' σ' U lk => ?_
  exact hq tm' σ' _ U.h (rel.same U.s lk) (bd.same U.s) U.kp
theorem lrest_c {H dw da k N : Nat} {s : Int} {tm : List Team} {ab : List (Str × Str)} {R : List Row4} {r : Row4} (h : HouseD σ H dw da tm ab) (rel : Rel4 tm ab R) (ok : ROk4 s R) (rl : R.length ≤ 26) (bd : Bd N tm ab) (hk : R[k]? = some r) (hh : r.here = true) (ht : r.team = false)
    (hq : ∀ tm' σ' v, HouseD σ' H dw da tm' ab → Rel4 tm' ab R → Bd N tm' ab → KpH σ σ' → Q v σ') : WFn (cx w mean mg mb) ⟨n + 4, true, sc⟩ m_House_rest [.ref H, .str r.name] ρ Q X σ := by
  obtain ⟨i, t, j, x, a1, a2, a3, a4⟩ := rel.ent k r hk hh
  have hn : x.name ∉ tm.map (·.name) := by rw [a4, team_of rel ok rl hk, ht]; exact fun q => nomatch q.2
  rw [← a4]
  refine hrest_c h rel.tr rel.lk a1 a3 hn (fun u hu => (rel.sh u hu).1) fun tm' σ' U lk => ?_
  exact hq tm' σ' _ U.h (rel.same U.s lk) (bd.same U.s) U.kp
theorem lreshare_c {H dw da k N : Nat} {share : Int} {tm : List Team} {ab : List (Str × Str)} {R : List Row4} {r : Row4} (h : HouseD σ H dw da tm ab) (rel : Rel4 tm ab R) (bd : Bd N tm ab) (hk : R[k]? = some r) (hh : r.here = true) (s0 : 1 ≤ share) (s1 : share ≤ 12)
    (hq : ∀ tm' σ' v, HouseD σ' H dw da tm' ab → Rel4 tm' ab R → Bd N tm' ab → KpH σ σ' → Q v σ') : WFn (cx w mean mg mb) ⟨n + 4, true, sc⟩ m_House_reshare [.ref H, .str r.name, .int share] ρ Q X σ := by
  obtain ⟨i, t, j, x, a1, a2, a3, a4⟩ := rel.ent k r hk hh
  have hm := rel.tr.mem i t j x a1 a3
  obtain ⟨g0, g1⟩ := (rel.sh t (List.mem_of_getElem? a1)).2 x (List.mem_of_getElem? a3)
  rw [← a4]
  refine reshare_h h a1 hm a3 s0 s1 g0 g1 fun σ' h' k' => ?_
  exact hq _ σ' _ h' (rel.resh a1 a3 (y := shared t.past share x) rfl rfl s0 s1) (bd.set (t' := { t with l := t.l.set j (shared t.past share x) }) a1 rfl (by rw [List.length_set]; exact bd.l t (List.mem_of_getElem? a1))) k'
theorem lleave_c {H dw da k N : Nat} {s : Int} {tm : List Team} {ab : List (Str × Str)} {R : List Row4} {r : Row4} (h : HouseD σ H dw da tm ab) (rel : Rel4 tm ab R) (ok : ROk4 s R) (rl : R.length ≤ 26) (bd : Bd N tm ab) (hN : N ≤ 500) (hk : R[k]? = some r) (hh : r.here = true) (hw : ∀ (m : Nat) (q : Row4), R[m]? = some q → q.here = true → q.up ≠ r.name)
    (hq : ∀ tm' ab' σ' v, HouseD σ' H dw da tm' ab' → Rel4 tm' ab' (R.set k { r with here := false }) → Bd N tm' ab' → KpH σ σ' → Q v σ') : WFn (cx w mean mg mb) ⟨n + 5, true, sc⟩ m_House_leave [.ref H, .str r.name] ρ Q X σ := by
  obtain ⟨i, t, j, x, a1, a2, a3, a4⟩ := rel.ent k r hk hh
  have hal := bd.al
  have htl := bd.tl
  have rlS : (R.set k { r with team := false }).length ≤ 26 := by rw [List.length_set]; exact rl
  cases hteam : r.team with
  | false =>
    have hn : x.name ∉ tm.map (·.name) := by rw [a4, team_of rel ok rl hk, hteam]; exact fun q => nomatch q.2
    rw [← a4]
    refine leave_handG h rel.tr rel.lk a1 hn a3 (fun u hu => (rel.sh u hu).1) (by walk_at "om") fun tm1 t1 x1 σ' sm lk1 b1 b2 b3 b4 b5 h' k' => ?_
    have rel1 := rel.same sm lk1
    have bd1 := bd.same sm
    have an := h.an
    have ndp : Ndp tm1 := by
      refine ⟨by rw [sm.names]; exact h.tn, fun u hu => ?_⟩
      obtain ⟨m, hm⟩ := List.mem_iff_getElem?.mp hu
      obtain ⟨u0, hu0, _, lu⟩ := sm.back hm
      have := congrArg (List.map (·.1)) lu
      rw [List.map_map, List.map_map] at this
      have e : u.l.map (·.name) = u0.l.map (·.name) := this
      rw [e]; exact (h.whl u0 (List.mem_of_getElem? hu0)).nn
    have rel2 := rel1.gone ok rl ndp an hk hh hteam b1 b3 (b4.trans a4) b5
    rw [b4] at rel2
    refine hq _ _ σ' _ h' rel2 ?_ k'
    have b := bd1.set (t' := { t1 with l := t1.l.eraseIdx j }) b1 rfl (Nat.le_trans (List.eraseIdx_sublist ..).length_le (bd1.l t1 (List.mem_of_getElem? b1)))
    exact ⟨b.tl, Nat.le_trans (List.length_filter_le ..) hal, b.g, b.l⟩
  | true =>
    have hin : r.name ∈ tm.map (·.name) := (team_of rel ok rl hk).mpr ⟨hh, hteam⟩
    obtain ⟨u, hu, eu⟩ := List.mem_map.mp hin
    obtain ⟨iu, hiu⟩ := List.mem_iff_getElem?.mp hu
    have hul : u.l = [] := by
      cases e : u.l with
      | nil => rfl
      | cons y l =>
        have hm := rel.tr.mem iu u 0 y hiu (by rw [e]; rfl)
        obtain ⟨m, q, c1, c2, c3⟩ := (rel.abm _).mp hm
        exact absurd ((congrArg (·.2) c3).symm.trans eu) (hw m q c1 c2)
    have rel1 := rel.dropT ok rl h.tn hk hh hiu hul eu
    have fe := filter_erase h.tn hiu
    have hne : i ≠ iu := fun e => by
      subst e
      have : u = t := Option.some.inj (hiu.symm.trans a1)
      rw [← this, hul] at a3; simp at a3
    obtain ⟨i', d1, _⟩ := erase_to a1 hne
    have hxr : x.ready = false := by
      rw [rel.lk iu u i t j x hiu (fun q => q) (by rw [eu, ← a4]; exact rel.tr.mem i t j x a1 a3) a1 a3 (by rw [a4, eu]), hul]; rfl
    rw [← a4]
    have ex : u.name = x.name := by rw [eu, a4]
    rw [ex] at fe
    have sub := List.eraseIdx_sublist tm iu
    refine leave_team h hu ex hul (by rw [fe]; exact d1) (rel.tr.mem i t j x a1 a3) a3 (rel.sh t (List.mem_of_getElem? a1)).1 (by walk_at "om") (by walk_at "om") fun σ' h' k' => ?_
    rw [fe] at h'
    have hk1 : (R.set k { r with team := false })[k]? = some { r with team := false } := List.getElem?_set_self (List.getElem?_eq_some_iff.mp hk).1
    have ndp : Ndp (tm.eraseIdx iu) := ⟨List.Nodup.sublist (sub.map _) h.tn, fun v hv => (h.whl v (sub.subset hv)).nn⟩
    have rel2 := rel1.gone (ok.alter hk rfl) rlS ndp h.an hk1 hh rfl d1 a3 a4 hxr
    rw [List.set_set] at rel2
    have hk2 : (R.set k { r with team := false, here := false })[k]? = some { r with team := false, here := false } := List.getElem?_set_self (List.getElem?_eq_some_iff.mp hk).1
    have rel3 := rel2.alter (r' := { r with here := false }) hk2 rfl rfl
    rw [List.set_set] at rel3
    have bd1 : Bd N (tm.eraseIdx iu) ab := ⟨Nat.le_trans sub.length_le htl, hal, fun v hv => bd.g v (sub.subset hv), fun v hv => bd.l v (sub.subset hv)⟩
    have b := bd1.set (t' := { t with l := t.l.eraseIdx j }) d1 rfl (Nat.le_trans (List.eraseIdx_sublist ..).length_le (bd.l t (List.mem_of_getElem? a1)))
    exact hq _ _ σ' _ h' rel3 ⟨b.tl, Nat.le_trans (List.length_filter_le ..) hal, b.g, b.l⟩ k'
def off (r : Row4) : Row4 := { r with here := false }
def mask (j : Nat) (R : List Row4) : List Row4 := R.take j ++ (R.drop j).map off
theorem mask_at : ∀ (R : List Row4) (j k : Nat), (mask j R)[k]? = if k < j then R[k]? else (R[k]?).map off
  | [], j, k => by simp [mask]
  | r :: R, 0, k => by unfold mask; rw [List.take_zero, List.drop_zero, List.nil_append, List.getElem?_map, if_neg (Nat.not_lt_zero _)]
  | r :: R, j + 1, 0 => by simp [mask]
  | r :: R, j + 1, k + 1 => by
    have ih := mask_at R j k
    unfold mask at ih ⊢
    rw [List.take_succ_cons, List.drop_succ_cons, List.cons_append, List.getElem?_cons_succ, List.getElem?_cons_succ, ih]
    by_cases q : k < j
    · rw [if_pos q, if_pos (Nat.succ_lt_succ q)]
    · rw [if_neg q, if_neg (by walk_at "om")]
theorem mask_len (R : List Row4) (j : Nat) : (mask j R).length = R.length := by
  unfold mask
  rw [List.length_append, List.length_map, ← List.length_append, List.take_append_drop]
theorem mask_full (R : List Row4) : mask R.length R = R := by unfold mask; rw [List.take_length, List.drop_length, List.map_nil, List.append_nil]
theorem mask_set {R : List Row4} {j : Nat} {r : Row4} (h : R[j]? = some r) : (mask j R).set j r = mask (j + 1) R := by
  have hl := (List.getElem?_eq_some_iff.mp h).1
  refine List.ext_getElem? fun k => ?_
  by_cases q : j = k
  · subst q
    rw [List.getElem?_set_self (by rw [mask_len]; exact hl), mask_at, if_pos (Nat.lt_succ_self _), h]
  · rw [List.getElem?_set_ne q, mask_at, mask_at]
    by_cases e : k < j
    · rw [if_pos e, if_pos (by walk_at "om")]
    · rw [if_neg e, if_neg (by walk_at "om")]
theorem mask_ok {s : Int} {R : List Row4} (ok : ROk4 s R) (j : Nat) : ROk4 s (mask j R) := ⟨fun k r hk => by
  rw [mask_at] at hk
  split at hk
  · exact ok.nm k r hk
  · obtain ⟨q, h1, h2⟩ := Option.map_eq_some_iff.mp hk
    rw [← h2]; exact ok.nm k q h1⟩
theorem mask_here {R : List Row4} {j k : Nat} {r : Row4} (h : (mask j R)[k]? = some r) (hh : r.here = true) : k < j ∧ R[k]? = some r := by
  rw [mask_at] at h
  split at h
  · rename_i q; exact ⟨q, h⟩
  · obtain ⟨q, h1, h2⟩ := Option.map_eq_some_iff.mp h
    rw [← h2] at hh; exact nomatch hh
theorem house_by_c {s third : Int} {B : Nat} {R : List Row4} {ts : List Nat} (hR : Rows4 σ B R ts) (ok : ROk4 s R) (nw : RNew R) (hz : R.length ≤ 25)
    (hq : ∀ H dw da tm ab σ', HouseD σ' H dw da tm ab → Rel4 tm ab R → Bd 26 tm ab → KpH σ σ' → Q (.ref H) σ') : WFn (cx w mean mg mb) ⟨n + 6, true, sc⟩ a_law_house_by [.ref B, .int third] ρ Q X σ := by
  have tl := hR.len
  refine WFn.fn2 (p1 := "_law_rows") (p2 := "_law_third") ⟨⟨_, _, _, _, _, _, _, _, _, _, _, _, _, (rfl : (Mine.hd.heap_39 w.params).lookup a_law_house_by = _), by kernel_rfl, us2 fun _ _ => rfl⟩, by kernel_rfl⟩ ?_
  with_reducible refine WSs.cons ?_
  with_reducible refine WS.assign (by with_unfolding_all (first | exact fun _ _ => rfl | exact fun _ _ _ => rfl)) ?_
  with_reducible refine WE.call rfl rfl ?_
  with_reducible refine WE.globalA (by kernel_rfl) g_House ?_
  with_reducible refine And.intro (Callee.cls mi_House) ?_
  with_reducible refine WEs.nil ?_
  refine WCall.of_fn (make_house 100 (Nat.le_refl _) fun H dw da W d σ1 h1 e1 => ?_)
  have hR1 := hR.ext e1
  with_reducible refine WSt.localA (by kernel_rfl) ?_
  with_reducible refine WSs.cons ?_
  with_reducible refine WS.for rfl (by with_unfolding_all (first | exact fun _ _ => rfl | exact fun _ _ _ => rfl)) ?_
  with_reducible refine WE.call rfl rfl ?_
  with_reducible refine WE.globalA (by kernel_rfl) g_range ?_
  with_reducible refine And.intro (Callee.con rfl) ?_
  with_reducible refine WEs.cons rfl ?_
  with_reducible refine WE.call rfl rfl ?_
  with_reducible refine WE.globalA (by kernel_rfl) g_len ?_
  with_reducible refine And.intro (Callee.con rfl) ?_
  with_reducible refine WEs.cons rfl ?_
  with_reducible refine WE.localA (by kernel_rfl) (by kernel_rfl) (by walk_at "lk") ?_
  with_reducible refine WEs.nil ?_
  refine WCall.lenList (ListAt.own hR1.lst) (by simp; walk_at "om") ?_
  have el : ((ts.map MV.ref).length : Int) = (R.length : Int) := by simp [tl]
  rw [el]
  with_reducible refine WEs.nil ?_
  refine WCall.range1 9 fun b hb => ?_
  refine ⟨_, _, itR Hp.self (by walk_at "om") (by walk_at "om"), ?_⟩
  refine WFor.upToO (fun j ρ' σ' => (∃ tm ab, HouseD σ' H dw da tm ab ∧ Rel4 tm ab (mask j R) ∧ Bd (j + 1) tm ab) ∧ KpH σ σ' ∧ ρ' "_law_rows" = some (.ref B) ∧ ρ' "_law_third" = some (.int third) ∧ ρ' "_law_house" = some (.ref H)) ?_ ?_ ?_
  · refine ⟨⟨_, _, h1.ext fun a p q => Hp.new hb.none q, ?_, ?_⟩, fun a t o q _ _ => Hp.new hb.none (e1 _ _ q), by walk_at "lk", by walk_at "lk", by walk_at "lk"⟩
    · have no : ∀ (k : Nat) (r : Row4), (mask 0 R)[k]? = some r → r.here = true → False := fun k r h hh => by have := (mask_here h hh).1; walk_at "om"
      refine ⟨fun p => ⟨fun q => (nomatch q), fun ⟨k, r, a1, a2, _⟩ => (no k r a1 a2).elim⟩, fun x => ⟨fun q => .inl (List.mem_singleton.mp q), fun q => q.elim (fun q => List.mem_singleton.mpr q) fun ⟨k, r, a1, a2, _⟩ => (no k r a1 a2).elim⟩, fun k r a1 a2 => (no k r a1 a2).elim, ⟨⟨_, rfl, rfl⟩, fun k t hk hpos => ?_, fun k t j x hk hj => ?_, by simp⟩, fun k t k' t' j x _ _ hm => absurd hm (by simp), fun t ht => ?_⟩
      · cases k with
        | zero => exact absurd hpos (Nat.lt_irrefl _)
        | succ k => simp at hk
      · cases k with
        | zero => simp at hk; subst hk; simp at hj
        | succ k => simp at hk
      · rw [List.mem_singleton.mp ht]
        exact ⟨Nat.zero_le _, fun x hx => nomatch hx⟩
    · refine ⟨Nat.le_refl _, Nat.zero_le _, fun t ht => ?_, fun t ht => ?_⟩
      · rw [List.mem_singleton.mp ht]; show 100 ≤ 101; decide
      · rw [List.mem_singleton.mp ht]; exact Nat.zero_le _
  · clear h1 hR1 el hb
    rintro j ρ' σ' hj ⟨⟨tm, ab, h, rel, bd⟩, kp, r0, r1, r2⟩
    intro KL hKL
    have hlt : j < R.length := by walk_at "om"
    have hr : R[j]? = some R[j] := List.getElem?_eq_getElem hlt
    generalize R[j] = r at hr
    obtain ⟨o2, o5, o6, o7⟩ := nw.nw j r hr
    have hRR := hR.keep (σ' := σ') (fun q => kp _ _ _ q (by decide) (by decide)) (fun q => kp _ _ _ q (by decide) (by decide))
    obtain ⟨u, hu, hru⟩ := hRR.at hr
    have hB := hRR.lst
    have hH := h.hou
    have hx1 : (ts.map MV.ref)[((j : Nat) : Int).toNat]? = some (.ref u) := by rw [Int.toNat_natCast, List.getElem?_map, hu]; rfl
    have j0 : 0 ≤ ((j : Nat) : Int) := Int.natCast_nonneg j
    have j1 : ((j : Nat) : Int) < 2 ^ 63 := by walk_at "om"
    have okm := mask_ok ok j
    have hkm : (mask j R)[j]? = some (off r) := by rw [mask_at, if_neg (Nat.lt_irrefl _), hr]; rfl
    have rlm : (mask j R).length ≤ 26 := by rw [mask_len]; walk_at "om"
    have hup : r.up ∈ tm.map (·.name) := by
      rw [rel.tns]
      rcases o2 with q | ⟨i, r', lt, a1, a2, a3⟩
      · exact .inl q
      · exact .inr ⟨i, r', by rw [mask_at, if_pos lt]; exact a1, (nw.nw i r' a1).2.2.2, a2, a3⟩
    have z0 : [MV.str r.name, .str r.up, .int r.share, .bool r.team, .bool r.here][Int.toNat 0]? = some (.str r.name) := rfl
    have z1 : [MV.str r.name, .str r.up, .int r.share, .bool r.team, .bool r.here][Int.toNat 1]? = some (.str r.up) := rfl
    have z2 : [MV.str r.name, .str r.up, .int r.share, .bool r.team, .bool r.here][Int.toNat 2]? = some (.int r.share) := rfl
    have z3 : [MV.str r.name, .str r.up, .int r.share, .bool r.team, .bool r.here][Int.toNat 3]? = some (.bool r.team) := rfl
    cases hteam : r.team with
    | true =>
      rw [hteam] at hru z0 z1 z2 z3
      with_reducible refine WSt.localA (by kernel_rfl) ?_
      with_reducible refine WSs.cons ?_
      with_reducible refine WS.assign (by with_unfolding_all (first | exact fun _ _ => rfl | exact fun _ _ _ => rfl)) ?_
      with_reducible refine WE.sub ?_
      with_reducible refine WE.localA (by kernel_rfl) (by kernel_rfl) (by walk_at "lk") ?_
      with_reducible refine WE.localA (by kernel_rfl) (by kernel_rfl) (by walk_at "lk") ?_
      with_reducible refine WSub.list (by with_unfolding_all (first | exact fun _ _ => rfl | exact fun _ _ _ => rfl)) (by first | with_reducible assumption | ((with_reducible apply ListAt.own); walk_at "hp") | ((with_reducible apply ListAt.k); walk_at "hp")) (by walk_at "ar") (by walk_at "ar") (by with_reducible assumption) ?_
      with_reducible refine WSt.localA (by kernel_rfl) ?_
      with_reducible refine WSs.cons ?_
      with_reducible refine WS.ite ?_
      with_reducible refine WT.plain (by with_unfolding_all (first | exact fun _ _ => rfl | exact fun _ _ _ => rfl)) ?_
      with_reducible refine WE.sub ?_
      with_reducible refine WE.localA (by kernel_rfl) (by kernel_rfl) (by walk_at "lk") ?_
      with_reducible refine WE.int ?_
      with_reducible refine WSub.list (by with_unfolding_all (first | exact fun _ _ => rfl | exact fun _ _ _ => rfl)) (by first | with_reducible assumption | ((with_reducible apply ListAt.own); walk_at "hp") | ((with_reducible apply ListAt.k); walk_at "hp")) (by walk_at "ar") (by walk_at "ar") (by with_reducible assumption) ?_
      with_reducible refine WTr.bool ?_
      with_reducible refine if_tt ?_
      with_reducible refine WSs.cons ?_
      with_reducible refine WS.expr (by with_unfolding_all (first | exact fun _ _ => rfl | exact fun _ _ _ => rfl)) ?_
      with_reducible refine WE.method (by with_unfolding_all (first | exact fun _ _ => rfl | exact fun _ _ _ => rfl)) rfl rfl rfl ?_
      with_reducible refine WE.localA (by kernel_rfl) (by kernel_rfl) (by walk_at "lk") ?_
      with_reducible refine WM.inst (by walk_at "hp") ms_House_team (by kernel_rfl) ?_
      with_reducible refine And.intro (Callee.meth ms_House_team) ?_
      with_reducible refine WEs.cons rfl ?_
      with_reducible refine WE.sub ?_
      with_reducible refine WE.localA (by kernel_rfl) (by kernel_rfl) (by walk_at "lk") ?_
      with_reducible refine WE.int ?_
      with_reducible refine WSub.list (by with_unfolding_all (first | exact fun _ _ => rfl | exact fun _ _ _ => rfl)) (by first | with_reducible assumption | ((with_reducible apply ListAt.own); walk_at "hp") | ((with_reducible apply ListAt.k); walk_at "hp")) (by walk_at "ar") (by walk_at "ar") (by with_reducible assumption) ?_
      with_reducible refine WEs.cons rfl ?_
      with_reducible refine WE.sub ?_
      with_reducible refine WE.localA (by kernel_rfl) (by kernel_rfl) (by walk_at "lk") ?_
      with_reducible refine WE.int ?_
      with_reducible refine WSub.list (by with_unfolding_all (first | exact fun _ _ => rfl | exact fun _ _ _ => rfl)) (by first | with_reducible assumption | ((with_reducible apply ListAt.own); walk_at "hp") | ((with_reducible apply ListAt.k); walk_at "hp")) (by walk_at "ar") (by walk_at "ar") (by with_reducible assumption) ?_
      with_reducible refine WEs.cons rfl ?_
      with_reducible refine WE.sub ?_
      with_reducible refine WE.localA (by kernel_rfl) (by kernel_rfl) (by walk_at "lk") ?_
      with_reducible refine WE.int ?_
      with_reducible refine WSub.list (by with_unfolding_all (first | exact fun _ _ => rfl | exact fun _ _ _ => rfl)) (by first | with_reducible assumption | ((with_reducible apply ListAt.own); walk_at "hp") | ((with_reducible apply ListAt.k); walk_at "hp")) (by walk_at "ar") (by walk_at "ar") (by with_reducible assumption) ?_
      with_reducible refine WEs.nil ?_
      refine WCall.of_fn (come_team (r := off r) h rel okm rlm bd (by walk_at "om") hkm rfl hup o5 o6 fun tm' ab' σ2 h2 rel2 bd2 k2 => ?_)
      have er : ({ off r with up := r.up, team := true, here := true } : Row4) = r := by cases r; simp only [off] at *; subst hteam; subst o7; rfl
      rw [er, mask_set hr] at rel2
      with_reducible refine WSs.nil ?_
      with_reducible refine WSs.nil ?_
      exact hKL _ _ ⟨⟨tm', ab', h2, rel2, bd2⟩, fun a t o q m1 m100 => k2 _ _ _ (kp _ _ _ q m1 m100) m1 m100, by walk_at "lk", by walk_at "lk", by walk_at "lk"⟩
    | false =>
      rw [hteam] at hru z0 z1 z2 z3
      with_reducible refine WSt.localA (by kernel_rfl) ?_
      with_reducible refine WSs.cons ?_
      with_reducible refine WS.assign (by with_unfolding_all (first | exact fun _ _ => rfl | exact fun _ _ _ => rfl)) ?_
      with_reducible refine WE.sub ?_
      with_reducible refine WE.localA (by kernel_rfl) (by kernel_rfl) (by walk_at "lk") ?_
      with_reducible refine WE.localA (by kernel_rfl) (by kernel_rfl) (by walk_at "lk") ?_
      with_reducible refine WSub.list (by with_unfolding_all (first | exact fun _ _ => rfl | exact fun _ _ _ => rfl)) (by first | with_reducible assumption | ((with_reducible apply ListAt.own); walk_at "hp") | ((with_reducible apply ListAt.k); walk_at "hp")) (by walk_at "ar") (by walk_at "ar") (by with_reducible assumption) ?_
      with_reducible refine WSt.localA (by kernel_rfl) ?_
      with_reducible refine WSs.cons ?_
      with_reducible refine WS.ite ?_
      with_reducible refine WT.plain (by with_unfolding_all (first | exact fun _ _ => rfl | exact fun _ _ _ => rfl)) ?_
      with_reducible refine WE.sub ?_
      with_reducible refine WE.localA (by kernel_rfl) (by kernel_rfl) (by walk_at "lk") ?_
      with_reducible refine WE.int ?_
      with_reducible refine WSub.list (by with_unfolding_all (first | exact fun _ _ => rfl | exact fun _ _ _ => rfl)) (by first | with_reducible assumption | ((with_reducible apply ListAt.own); walk_at "hp") | ((with_reducible apply ListAt.k); walk_at "hp")) (by walk_at "ar") (by walk_at "ar") (by with_reducible assumption) ?_
      with_reducible refine WTr.bool ?_
      with_reducible refine if_ff ?_
      with_reducible refine WSs.cons ?_
      with_reducible refine WS.expr (by with_unfolding_all (first | exact fun _ _ => rfl | exact fun _ _ _ => rfl)) ?_
      with_reducible refine WE.method (by with_unfolding_all (first | exact fun _ _ => rfl | exact fun _ _ _ => rfl)) rfl rfl rfl ?_
      with_reducible refine WE.localA (by kernel_rfl) (by kernel_rfl) (by walk_at "lk") ?_
      with_reducible refine WM.inst (by walk_at "hp") ms_House_hand (by kernel_rfl) ?_
      with_reducible refine And.intro (Callee.meth ms_House_hand) ?_
      with_reducible refine WEs.cons rfl ?_
      with_reducible refine WE.sub ?_
      with_reducible refine WE.localA (by kernel_rfl) (by kernel_rfl) (by walk_at "lk") ?_
      with_reducible refine WE.int ?_
      with_reducible refine WSub.list (by with_unfolding_all (first | exact fun _ _ => rfl | exact fun _ _ _ => rfl)) (by first | with_reducible assumption | ((with_reducible apply ListAt.own); walk_at "hp") | ((with_reducible apply ListAt.k); walk_at "hp")) (by walk_at "ar") (by walk_at "ar") (by with_reducible assumption) ?_
      with_reducible refine WEs.cons rfl ?_
      with_reducible refine WE.sub ?_
      with_reducible refine WE.localA (by kernel_rfl) (by kernel_rfl) (by walk_at "lk") ?_
      with_reducible refine WE.int ?_
      with_reducible refine WSub.list (by with_unfolding_all (first | exact fun _ _ => rfl | exact fun _ _ _ => rfl)) (by first | with_reducible assumption | ((with_reducible apply ListAt.own); walk_at "hp") | ((with_reducible apply ListAt.k); walk_at "hp")) (by walk_at "ar") (by walk_at "ar") (by with_reducible assumption) ?_
      with_reducible refine WEs.cons rfl ?_
      with_reducible refine WE.sub ?_
      with_reducible refine WE.localA (by kernel_rfl) (by kernel_rfl) (by walk_at "lk") ?_
      with_reducible refine WE.int ?_
      with_reducible refine WSub.list (by with_unfolding_all (first | exact fun _ _ => rfl | exact fun _ _ _ => rfl)) (by first | with_reducible assumption | ((with_reducible apply ListAt.own); walk_at "hp") | ((with_reducible apply ListAt.k); walk_at "hp")) (by walk_at "ar") (by walk_at "ar") (by with_reducible assumption) ?_
      with_reducible refine WEs.nil ?_
      refine WCall.of_fn (come_hand (r := off r) h rel okm rlm bd (by walk_at "om") hkm rfl hup o5 o6 fun tm' ab' σ2 h2 rel2 bd2 k2 => ?_)
      have er : ({ off r with up := r.up, team := false, here := true } : Row4) = r := by cases r; simp only [off] at *; subst hteam; subst o7; rfl
      rw [er, mask_set hr] at rel2
      have k3 : KpH σ σ2 := fun a t o q m1 m100 => k2 _ _ _ (kp _ _ _ q m1 m100) m1 m100
      have hru2 := k2 _ _ _ hru (by decide) (by decide)
      have hH2 := h2.hou
      clear hru hH hB
      by_cases hw : (third + (j : Int)).fmod 3 > 0
      · have hkm2 : (mask (j + 1) R)[j]? = some r := by rw [mask_at, if_pos (Nat.lt_succ_self _)]; exact hr
        with_reducible refine WSs.cons ?_
        with_reducible refine WS.ite ?_
        with_reducible refine WT.cmp1 rfl ?_
        with_reducible refine WE.binop ?_
        with_reducible refine WE.binop ?_
        with_reducible refine WE.localA (by kernel_rfl) (by kernel_rfl) (by walk_at "lk") ?_
        with_reducible refine WE.localA (by kernel_rfl) (by kernel_rfl) (by walk_at "lk") ?_
        with_reducible refine WB.add ?_
        with_reducible refine WE.int ?_
        with_reducible refine WB.mod (by walk_at "ar") ?_
        with_reducible refine WE.int ?_
        with_reducible refine WC.gt ?_
        with_reducible refine WTr.bool ?_
        with_reducible refine if_dt (by with_reducible assumption) ?_
        with_reducible refine WSs.cons ?_
        with_reducible refine WS.expr (by with_unfolding_all (first | exact fun _ _ => rfl | exact fun _ _ _ => rfl)) ?_
        with_reducible refine WE.method (by with_unfolding_all (first | exact fun _ _ => rfl | exact fun _ _ _ => rfl)) rfl rfl rfl ?_
        with_reducible refine WE.localA (by kernel_rfl) (by kernel_rfl) (by walk_at "lk") ?_
        with_reducible refine WM.inst (by walk_at "hp") ms_House_wake (by kernel_rfl) ?_
        with_reducible refine And.intro (Callee.meth ms_House_wake) ?_
        with_reducible refine WEs.cons rfl ?_
        with_reducible refine WE.sub ?_
        with_reducible refine WE.localA (by kernel_rfl) (by kernel_rfl) (by walk_at "lk") ?_
        with_reducible refine WE.int ?_
        with_reducible refine WSub.list (by with_unfolding_all (first | exact fun _ _ => rfl | exact fun _ _ _ => rfl)) (by first | with_reducible assumption | ((with_reducible apply ListAt.own); walk_at "hp") | ((with_reducible apply ListAt.k); walk_at "hp")) (by walk_at "ar") (by walk_at "ar") (by with_reducible assumption) ?_
        with_reducible refine WEs.nil ?_
        refine WCall.of_fn (lwake_c h2 rel2 (mask_ok ok _) (by rw [mask_len]; walk_at "om") bd2 hkm2 o7 hteam fun tm3 σ3 v h3 rel3 bd3 k4 => ?_)
        with_reducible refine WSs.nil ?_
        with_reducible refine WSs.nil ?_
        with_reducible refine WSs.nil ?_
        exact hKL _ _ ⟨⟨tm3, ab', h3, rel3, bd3⟩, fun a t o q m1 m100 => k4 _ _ _ (k3 _ _ _ q m1 m100) m1 m100, by walk_at "lk", by walk_at "lk", by walk_at "lk"⟩
      · skip
        with_reducible refine WSs.cons ?_
        with_reducible refine WS.ite ?_
        with_reducible refine WT.cmp1 rfl ?_
        with_reducible refine WE.binop ?_
        with_reducible refine WE.binop ?_
        with_reducible refine WE.localA (by kernel_rfl) (by kernel_rfl) (by walk_at "lk") ?_
        with_reducible refine WE.localA (by kernel_rfl) (by kernel_rfl) (by walk_at "lk") ?_
        with_reducible refine WB.add ?_
        with_reducible refine WE.int ?_
        with_reducible refine WB.mod (by walk_at "ar") ?_
        with_reducible refine WE.int ?_
        with_reducible refine WC.gt ?_
        with_reducible refine WTr.bool ?_
        with_reducible refine if_df (by with_reducible assumption) ?_
        with_reducible refine WSs.nil ?_
        with_reducible refine WSs.nil ?_
        with_reducible refine WSs.nil ?_
        exact hKL _ _ ⟨⟨tm', ab', h2, rel2, bd2⟩, k3, by walk_at "lk", by walk_at "lk", by walk_at "lk"⟩
  · rintro ρ' σ' ⟨⟨tm, ab, h, rel, bd⟩, kp, r0, r1, r2⟩
    have en : ((R.length : Nat) : Int).toNat = R.length := Int.toNat_natCast _
    rw [en] at rel bd
    rw [mask_full] at rel
    with_reducible refine WSs.cons ?_
    with_reducible refine WS.ret ?_
    with_reducible refine WE.localA (by kernel_rfl) (by kernel_rfl) (by walk_at "lk") ?_
    exact hq H dw da tm ab σ' h rel (bd.up (by walk_at "om")) kp
def dec (σ : Hp) : MV → Option Row4
  | .ref t => match σ t with
    | some (_, .list [.str a, .str b, .int c, .bool d, .bool e]) => some ⟨a, b, c, d, e⟩
    | _ => Option.none
  | _ => Option.none
theorem dec_at {σ : Hp} {t : Nat} {r : Row4} (h : RowAt σ t r) : dec σ (.ref t) = some r := by
  have h' : σ t = some (7, .list [.str r.name, .str r.up, .int r.share, .bool r.team, .bool r.here]) := h
  simp only [dec, h']
theorem filt4 {σ : Hp} {ts : List Nat} {R : List Row4} (h : All2 (RowAt σ) ts R) (q : Row4 → Bool) : ∃ us : List Nat, ((ts.map MV.ref).filter fun v => (dec σ v).any q) = us.map .ref ∧ All2 (RowAt σ) us (R.filter q) := by
  induction h with
  | nil => exact ⟨[], rfl, .nil⟩
  | @cons t r l m e _ ih =>
    obtain ⟨us, e1, e2⟩ := ih
    rw [List.map_cons, List.filter_cons, List.filter_cons, dec_at e]
    show ∃ us : List Nat, (if q r = true then _ else _) = _ ∧ _
    cases hq : q r with
    | true => exact ⟨t :: us, by rw [if_pos rfl, e1]; rfl, by rw [if_pos rfl]; exact .cons e e2⟩
    | false => exact ⟨us, by rw [if_neg (by decide), e1], by rw [if_neg (by decide)]; exact e2⟩
/-- a comprehension that picks rows -/
theorem pick4 {i : Ix} {ρ : Lo} {x : Str} {t elt : Expr} {B : Nat} {R : List Row4} {ts : List Nat} {σ : Hp} (hR : Rows4 σ B R ts) (q : Row4 → Bool) {Qc : List MV → Hp → Prop}
    (h : ∀ (u : Nat) (r : Row4), σ u = some (7, .list [.str r.name, .str r.up, .int r.share, .bool r.team, .bool r.here]) → ∀ K : Bool → Hp → Prop, K (q r) σ → WT (cx w mean mg mb) i t (ρ.put x (.ref u)) K noX σ)
    (h' : ∀ (u : Nat), ∀ K : MV → Hp → Prop, K (.ref u) σ → WE (cx w mean mg mb) i elt (ρ.put x (.ref u)) K noX σ)
    (hq : ∀ us, All2 (RowAt σ) us (R.filter q) → Qc (us.map .ref) σ) : WComp (cx w mean mg mb) i x elt [t] (fun σ => ListAt σ B (ts.map .ref)) Qc ρ (ts.map .ref) [] σ := by
  obtain ⟨us, e1, e2⟩ := filt4 hR.row q
  refine WComp.filter (ListAt.own hR.lst) (p := fun v => (dec σ v).any q) (f := id) (fun v hv K hK => ?_) (fun v hv hp K hK => ?_) (by rw [e1, List.map_id]; exact hq us e2)
  · obtain ⟨u, hu, rfl⟩ := List.mem_map.mp hv
    obtain ⟨j, hj⟩ := List.mem_iff_getElem?.mp hu
    obtain ⟨r, _, e⟩ := hR.row.get hj
    refine h u r e K ?_
    rw [dec_at e] at hK
    exact hK
  · obtain ⟨u, hu, rfl⟩ := List.mem_map.mp hv
    exact h' u K hK
def decN (σ : Hp) (v : MV) : MV := .str ((dec σ v).elim "" (·.name))
theorem filtN {σ : Hp} {ts : List Nat} {R : List Row4} (h : All2 (RowAt σ) ts R) (q : Row4 → Bool) : ((ts.map MV.ref).filter fun v => (dec σ v).any q).map (decN σ) = ((R.filter q).map (·.name)).map .str := by
  induction h with
  | nil => rfl
  | @cons t r l m e _ ih =>
    rw [List.map_cons, List.filter_cons, List.filter_cons, dec_at e]
    show (if q r = true then _ else _ : List MV).map _ = _
    cases hq : q r with
    | true => rw [if_pos rfl, if_pos rfl, List.map_cons, ih, List.map_cons, List.map_cons, decN, dec_at e]; rfl
    | false => rw [if_neg (by decide), if_neg (by decide), ih]
/-- a comprehension that picks rows' names -/
theorem pickN {i : Ix} {ρ : Lo} {x : Str} {t elt : Expr} {B : Nat} {R : List Row4} {ts : List Nat} {σ : Hp} (hR : Rows4 σ B R ts) (q : Row4 → Bool) {Qc : List MV → Hp → Prop}
    (h : ∀ (u : Nat) (r : Row4), σ u = some (7, .list [.str r.name, .str r.up, .int r.share, .bool r.team, .bool r.here]) → ∀ K : Bool → Hp → Prop, K (q r) σ → WT (cx w mean mg mb) i t (ρ.put x (.ref u)) K noX σ)
    (h' : ∀ (u : Nat) (r : Row4), σ u = some (7, .list [.str r.name, .str r.up, .int r.share, .bool r.team, .bool r.here]) → ∀ K : MV → Hp → Prop, K (.str r.name) σ → WE (cx w mean mg mb) i elt (ρ.put x (.ref u)) K noX σ)
    (hq : Qc (((R.filter q).map (·.name)).map .str) σ) : WComp (cx w mean mg mb) i x elt [t] (fun σ => ListAt σ B (ts.map .ref)) Qc ρ (ts.map .ref) [] σ := by
  refine WComp.filter (ListAt.own hR.lst) (p := fun v => (dec σ v).any q) (f := decN σ) (fun v hv K hK => ?_) (fun v hv hp K hK => ?_) (by rw [filtN hR.row q]; exact hq)
  · obtain ⟨u, hu, rfl⟩ := List.mem_map.mp hv
    obtain ⟨j, hj⟩ := List.mem_iff_getElem?.mp hu
    obtain ⟨r, _, e⟩ := hR.row.get hj
    refine h u r e K ?_
    rw [dec_at e] at hK
    exact hK
  · obtain ⟨u, hu, rfl⟩ := List.mem_map.mp hv
    obtain ⟨j, hj⟩ := List.mem_iff_getElem?.mp hu
    obtain ⟨r, _, e⟩ := hR.row.get hj
    refine h' u r e K ?_
    rw [decN, dec_at e] at hK
    exact hK
/-- a list of refs compared with the empty list -/
theorem eqNil {c : Cx} {σ : Hp} {a b t t' : Nat} {us : List Nat} (ha : σ a = some (t, .list (us.map .ref))) (hb : σ b = some (t', .list [])) : RcV c σ 2 (.ref a) (.ref b) us.isEmpty ∧ RnV c σ 2 (.ref a) (.ref b) (!us.isEmpty) := by
  cases us with
  | nil => exact ⟨RcV.listT (k := 1) (ListAt.own ha) (ListAt.own hb) .nil, RnV.listT (k := 1) (ListAt.own ha) (ListAt.own hb) .nil⟩
  | cons x xs =>
    have h1 : RcV c σ 1 (.ref a) (.ref b) false := RcV.listF (ListAt.own ha) (ListAt.own hb) (by simp)
    have h2 : RnV c σ 1 (.ref a) (.ref b) true := RnV.listF (ListAt.own ha) (ListAt.own hb) (by simp)
    exact ⟨fun f ρ fr z s A v u R iv iu hu => h1 f ρ fr z s A v u R iv iu (by walk_at "om"), fun f ρ fr z s A v u R iv iu hu => h2 f ρ fr z s A v u R iv iu (by walk_at "om")⟩
/-- what is told: a past, or one of a wheel -/
def ItAt (σ : Hp) (v : MV) : Int ⊕ (Str × Int × Int × Bool) → Prop
  | .inl p => v = .int p
  | .inr c => ∃ u, v = .ref u ∧ σ u = some (8, .tuple [.str c.1, .int c.2.2.1, .int c.2.1, .bool c.2.2.2])
theorem ItAt.keep {σ σ' : Hp} {v : MV} {i : Int ⊕ (Str × Int × Int × Bool)} (h : ItAt σ v i) (k : ∀ {a o}, σ a = some (8, o) → σ' a = some (8, o)) : ItAt σ' v i := by
  cases i with
  | inl p => exact h
  | inr c => obtain ⟨u, h1, h2⟩ := h; exact ⟨u, h1, k h2⟩
def itemsT (t : Team) : List (Int ⊕ (Str × Int × Int × Bool)) := .inl t.past :: t.l.map fun x => .inr (core x)
theorem its_eq {c : Cx} {σ : Hp} {vs : List MV} {is : List (Int ⊕ (Str × Int × Int × Bool))} (h : All2 (ItAt σ) vs is) : ∀ {vs' : List MV}, All2 (ItAt σ) vs' is → EqVs c σ 1 vs vs' := by
  induction h with
  | nil => intro vs' h; cases h; exact .nil
  | @cons v i l m r _ ih =>
    intro vs' h
    cases h with | cons r' h' =>
    refine .cons ?_ (ih h')
    cases i with
    | inl p => cases r; cases r'; exact EqV.intT rfl
    | inr c =>
      obtain ⟨u, rfl, h1⟩ := r
      obtain ⟨u', rfl, h2⟩ := r'
      exact EqV.of_rc (RcV.tupT (k := 0) h1 h2 (.cons (EqV.strT rfl) (.cons (EqV.intT rfl) (.cons (EqV.intT rfl) (.cons (EqV.boolT rfl) .nil)))))
theorem told_c {H dw da B : Nat} {tm tms : List Team} {ab : List (Str × Str)} {R : List Row4} {ts : List Nat} (h : HouseD σ H dw da tm ab) (hR : Rows4 σ B R ts) (hz : R.length ≤ 26) (hl : ∀ t ∈ tm, t.l.length ≤ 1000) (tmn : tms.map (·.name) = ("" : Str) :: (R.filter fun r => r.team && r.here).map (·.name)) (tmm : ∀ t ∈ tms, t ∈ tm)
    (hq : ∀ L vs σ', σ' L = some (4, .list vs) → All2 (ItAt σ') vs (tms.flatMap itemsT) → Extd σ σ' → Q (.ref L) σ') : WFn (cx w mean mg mb) ⟨n + 5, true, sc⟩ a_law_told [.ref H, .ref B] ρ Q X σ := by
  have tl := hR.len
  have tml : tms.length ≤ 27 := by
    have := congrArg List.length tmn
    rw [List.length_map, List.length_cons, List.length_map] at this
    have fl : (R.filter fun r => r.team && r.here).length ≤ 26 := Nat.le_trans (List.length_filter_le ..) hz
    walk_at "om"
  refine WFn.fn2 (p1 := "_law_house") (p2 := "_law_rows") ⟨⟨_, _, _, _, _, _, _, _, _, _, _, _, _, (rfl : (Mine.hd.heap_39 w.params).lookup a_law_told = _), by kernel_rfl, us2 fun _ _ => rfl⟩, by kernel_rfl⟩ ?_
  with_reducible refine WSs.cons ?_
  with_reducible refine WS.assign (by with_unfolding_all (first | exact fun _ _ => rfl | exact fun _ _ _ => rfl)) ?_
  refine WE.list 4 ?_
  with_reducible refine WEs.nil ?_
  refine ⟨by simp, fun L hL => ?_⟩
  have nL : σ L = Option.none := hL.none
  have e0 : Extd σ (σ.put L 4 (.list [])) := fun a p q => Hp.new hL.none q
  have hL0 : (σ.put L 4 (.list [])) L = some (4, .list []) := Hp.self
  generalize σ.put L 4 (.list []) = σ0 at e0 hL0 ⊢
  clear hL
  with_reducible refine WSt.localA (by kernel_rfl) ?_
  with_reducible refine WSs.cons ?_
  with_reducible refine WS.for rfl (by with_unfolding_all (first | exact fun _ _ => rfl | exact fun _ _ _ => rfl)) ?_
  with_reducible refine WE.binop ?_
  refine WE.list 9 ?_
  with_reducible refine WEs.cons rfl ?_
  with_reducible refine WE.str ?_
  with_reducible refine WEs.nil ?_
  refine ⟨by simp, fun S hS => ?_⟩
  have e1 : Extd σ (σ0.put S 9 (.list [.str ""])) := fun a p q => Hp.new hS.none (e0 _ _ q)
  have hL1 : (σ0.put S 9 (.list [.str ""])) L = some (4, .list []) := Hp.new hS.none hL0
  have hS1 : (σ0.put S 9 (.list [.str ""])) S = some (9, .list [.str ""]) := Hp.self
  generalize σ0.put S 9 (.list [.str ""]) = σ1 at e1 hL1 hS1 ⊢
  clear hS e0 hL0
  have hR1 := hR.ext e1
  have hB1 := hR1.lst
  skip
  refine WE.compA 9 rfl (by with_unfolding_all (first | exact fun _ _ => rfl | exact fun _ _ _ => rfl)) (by kernel_rfl) (by ((repeat (first | assumption | (refine Lo.put_ne (by kernel_rfl) ?_))); rfl)) ?_
  with_reducible refine WE.localA (by kernel_rfl) (by kernel_rfl) (by walk_at "lk") ?_
  refine ⟨_, _, Iterable.list (ListAt.own hB1), by simp; walk_at "om", ?_⟩
  refine pickN hR1 (fun r => r.team && r.here) (fun u r e K hK => ?_) (fun u r e K hK => ?_) fun P hP => ?_
  · have z3 : [MV.str r.name, .str r.up, .int r.share, .bool r.team, .bool r.here][Int.toNat 3]? = some (.bool r.team) := rfl
    have z4 : [MV.str r.name, .str r.up, .int r.share, .bool r.team, .bool r.here][Int.toNat 4]? = some (.bool r.here) := rfl
    cases ht : r.team with
    | false =>
      rw [ht] at e z3 z4 hK
      with_reducible refine WT.bool ?_
      with_reducible refine WA.and ?_
      with_reducible refine WT.plain (by with_unfolding_all (first | exact fun _ _ => rfl | exact fun _ _ _ => rfl)) ?_
      with_reducible refine WE.sub ?_
      with_reducible refine WE.localA (by kernel_rfl) (by kernel_rfl) (by walk_at "lk") ?_
      with_reducible refine WE.int ?_
      with_reducible refine WSub.list (by with_unfolding_all (first | exact fun _ _ => rfl | exact fun _ _ _ => rfl)) (by first | with_reducible assumption | ((with_reducible apply ListAt.own); walk_at "hp") | ((with_reducible apply ListAt.k); walk_at "hp")) (by walk_at "ar") (by walk_at "ar") (by with_reducible assumption) ?_
      with_reducible refine WTr.bool ?_
      with_reducible refine if_ff ?_
      exact hK
    | true =>
      cases hh : r.here with
      | false =>
        rw [ht, hh] at e z3 z4 hK
        with_reducible refine WT.bool ?_
        with_reducible refine WA.and ?_
        with_reducible refine WT.plain (by with_unfolding_all (first | exact fun _ _ => rfl | exact fun _ _ _ => rfl)) ?_
        with_reducible refine WE.sub ?_
        with_reducible refine WE.localA (by kernel_rfl) (by kernel_rfl) (by walk_at "lk") ?_
        with_reducible refine WE.int ?_
        with_reducible refine WSub.list (by with_unfolding_all (first | exact fun _ _ => rfl | exact fun _ _ _ => rfl)) (by first | with_reducible assumption | ((with_reducible apply ListAt.own); walk_at "hp") | ((with_reducible apply ListAt.k); walk_at "hp")) (by walk_at "ar") (by walk_at "ar") (by with_reducible assumption) ?_
        with_reducible refine WTr.bool ?_
        with_reducible refine if_tt ?_
        with_reducible refine WA.and ?_
        with_reducible refine WT.plain (by with_unfolding_all (first | exact fun _ _ => rfl | exact fun _ _ _ => rfl)) ?_
        with_reducible refine WE.sub ?_
        with_reducible refine WE.localA (by kernel_rfl) (by kernel_rfl) (by walk_at "lk") ?_
        with_reducible refine WE.int ?_
        with_reducible refine WSub.list (by with_unfolding_all (first | exact fun _ _ => rfl | exact fun _ _ _ => rfl)) (by first | with_reducible assumption | ((with_reducible apply ListAt.own); walk_at "hp") | ((with_reducible apply ListAt.k); walk_at "hp")) (by walk_at "ar") (by walk_at "ar") (by with_reducible assumption) ?_
        with_reducible refine WTr.bool ?_
        with_reducible refine if_ff ?_
        exact hK
      | true =>
        rw [ht, hh] at e z3 z4 hK
        with_reducible refine WT.bool ?_
        with_reducible refine WA.and ?_
        with_reducible refine WT.plain (by with_unfolding_all (first | exact fun _ _ => rfl | exact fun _ _ _ => rfl)) ?_
        with_reducible refine WE.sub ?_
        with_reducible refine WE.localA (by kernel_rfl) (by kernel_rfl) (by walk_at "lk") ?_
        with_reducible refine WE.int ?_
        with_reducible refine WSub.list (by with_unfolding_all (first | exact fun _ _ => rfl | exact fun _ _ _ => rfl)) (by first | with_reducible assumption | ((with_reducible apply ListAt.own); walk_at "hp") | ((with_reducible apply ListAt.k); walk_at "hp")) (by walk_at "ar") (by walk_at "ar") (by with_reducible assumption) ?_
        with_reducible refine WTr.bool ?_
        with_reducible refine if_tt ?_
        with_reducible refine WA.and ?_
        with_reducible refine WT.plain (by with_unfolding_all (first | exact fun _ _ => rfl | exact fun _ _ _ => rfl)) ?_
        with_reducible refine WE.sub ?_
        with_reducible refine WE.localA (by kernel_rfl) (by kernel_rfl) (by walk_at "lk") ?_
        with_reducible refine WE.int ?_
        with_reducible refine WSub.list (by with_unfolding_all (first | exact fun _ _ => rfl | exact fun _ _ _ => rfl)) (by first | with_reducible assumption | ((with_reducible apply ListAt.own); walk_at "hp") | ((with_reducible apply ListAt.k); walk_at "hp")) (by walk_at "ar") (by walk_at "ar") (by with_reducible assumption) ?_
        with_reducible refine WTr.bool ?_
        with_reducible refine if_tt ?_
        with_reducible refine WA.and_nil ?_
        exact hK
  · have z0 : [MV.str r.name, .str r.up, .int r.share, .bool r.team, .bool r.here][Int.toNat 0]? = some (.str r.name) := rfl
    with_reducible refine WE.sub ?_
    with_reducible refine WE.localA (by kernel_rfl) (by kernel_rfl) (by walk_at "lk") ?_
    with_reducible refine WE.int ?_
    with_reducible refine WSub.list (by with_unfolding_all (first | exact fun _ _ => rfl | exact fun _ _ _ => rfl)) (by first | with_reducible assumption | ((with_reducible apply ListAt.own); walk_at "hp") | ((with_reducible apply ListAt.k); walk_at "hp")) (by walk_at "ar") (by walk_at "ar") (by with_reducible assumption) ?_
    exact hK
  refine WB.addL 9 (ListAt.own (Hp.new hP hS1)) (ListAt.own Hp.self) (by rw [List.length_map, List.length_map]; have : (R.filter fun r => r.team && r.here).length ≤ 26 := Nat.le_trans (List.length_filter_le ..) hz; simp only [List.length_cons, List.length_nil]; walk_at "om") fun T hT => ?_
  have en : ([MV.str ""] ++ ((R.filter fun r => r.team && r.here).map (·.name)).map MV.str) = (tms.map (·.name)).map MV.str := by rw [tmn]; rfl
  rw [en]
  have e2 : Extd σ ((σ1.put P 9 (.list (((R.filter fun r => r.team && r.here).map (·.name)).map .str))).put T 9 (.list ((tms.map (·.name)).map MV.str))) := fun a p q => Hp.new hT.none (Hp.new hP (e1 _ _ q))
  have hL2 : ((σ1.put P 9 (.list (((R.filter fun r => r.team && r.here).map (·.name)).map .str))).put T 9 (.list ((tms.map (·.name)).map MV.str))) L = some (4, .list []) := Hp.new hT.none (Hp.new hP hL1)
  have hT2 : ((σ1.put P 9 (.list (((R.filter fun r => r.team && r.here).map (·.name)).map .str))).put T 9 (.list ((tms.map (·.name)).map MV.str))) T = some (9, .list ((tms.map (·.name)).map MV.str)) := Hp.self
  generalize (σ1.put P 9 (.list (((R.filter fun r => r.team && r.here).map (·.name)).map .str))).put T 9 (.list ((tms.map (·.name)).map MV.str)) = σ2 at e2 hL2 hT2 ⊢
  clear hT hP e1 hL1 hS1 hR1 hB1
  refine ⟨_, _, Iterable.list (ListAt.own hT2), ?_⟩
  refine WFor.byIdxO (fun j ρ' σ' => (∃ vs, σ' L = some (4, .list vs) ∧ All2 (ItAt σ') vs ((tms.take j).flatMap itemsT) ∧ vs.length ≤ j * 1001) ∧ Extd σ σ' ∧ σ' T = some (9, .list ((tms.map (·.name)).map MV.str)) ∧ ρ' "_law_house" = some (.ref H) ∧ ρ' "_law_told_here" = some (.ref L)) ?_ ?_ ?_
  · exact ⟨⟨[], hL2, .nil, Nat.zero_le _⟩, e2, hT2, by walk_at "lk", by walk_at "lk"⟩
  · clear hL2 hT2 e2
    rintro j v ρ' σ' hv ⟨⟨vs, hL, hvs, vl⟩, e, hT, r0, r1⟩
    refine ⟨ListAt.own hT, ?_⟩
    intro KL hKL
    rw [List.getElem?_map, List.getElem?_map] at hv
    obtain ⟨nm, hnm, rfl⟩ := Option.map_eq_some_iff.mp hv
    obtain ⟨t, ht, rfl⟩ := Option.map_eq_some_iff.mp hnm
    have hmt := tmm t (List.mem_of_getElem? ht)
    have jl : j < 27 := Nat.lt_of_lt_of_le (List.getElem?_eq_some_iff.mp ht).1 tml
    have hlt := hl t hmt
    have h' := h.ext e
    have hH := h'.hou
    with_reducible refine WSt.localA (by kernel_rfl) ?_
    with_reducible refine WSs.cons ?_
    with_reducible refine WS.assign (by with_unfolding_all (first | exact fun _ _ => rfl | exact fun _ _ _ => rfl)) ?_
    with_reducible refine WE.method (by with_unfolding_all (first | exact fun _ _ => rfl | exact fun _ _ _ => rfl)) rfl rfl rfl ?_
    with_reducible refine WE.localA (by kernel_rfl) (by kernel_rfl) (by walk_at "lk") ?_
    with_reducible refine WM.inst (by walk_at "hp") ms_House_wheel_of (by kernel_rfl) ?_
    with_reducible refine And.intro (Callee.meth ms_House_wheel_of) ?_
    with_reducible refine WEs.cons rfl ?_
    with_reducible refine WE.localA (by kernel_rfl) (by kernel_rfl) (by walk_at "lk") ?_
    with_reducible refine WEs.nil ?_
    refine WCall.of_fn (wheel_of_ok 50 h' hmt (by walk_at "om") fun W' d' l' σ3 hw hc e3 => ?_)
    have ll : l'.length ≤ 1000 := by have := congrArg List.length hc; rw [List.length_map, List.length_map] at this; walk_at "om"
    have hL3 := e3 _ _ hL
    have hT3 := e3 _ _ hT
    have e3' : Extd σ σ3 := fun a p q => e3 _ _ (e _ _ q)
    have hvs3 := hvs.imp fun _ _ q => ItAt.keep (σ' := σ3) q fun q => e3 _ _ q
    have hW : σ3 W' = some (50, .inst a_Wheel [("past", .int t.past), ("sharers", .ref d')]) := hw.whl
    clear h' hH hvs hL hT e e3
    with_reducible refine WSt.localA (by kernel_rfl) ?_
    with_reducible refine WSs.cons ?_
    with_reducible refine WS.expr (by with_unfolding_all (first | exact fun _ _ => rfl | exact fun _ _ _ => rfl)) ?_
    with_reducible refine WE.method (by with_unfolding_all (first | exact fun _ _ => rfl | exact fun _ _ _ => rfl)) rfl rfl rfl ?_
    with_reducible refine WE.localA (by kernel_rfl) (by kernel_rfl) (by walk_at "lk") ?_
    refine WM.listAppend hL3 ?_
    with_reducible refine And.intro (Callee.con rfl) ?_
    with_reducible refine WEs.cons rfl ?_
    with_reducible refine WE.attr (by with_unfolding_all (first | exact fun _ _ => rfl | exact fun _ _ _ => rfl)) ?_
    with_reducible refine WE.localA (by kernel_rfl) (by kernel_rfl) (by walk_at "lk") ?_
    with_reducible refine WGet.inst (by walk_at "hp") (by kernel_rfl) (by repeat (first | (with_reducible exact lk_head) | (with_reducible refine lk_tail (by kernel_rfl) ?_))) (by with_unfolding_all rfl) ?_
    with_reducible refine WEs.nil ?_
    refine WCall.append hL3 (by walk_at "om") ?_
    have k4 : ∀ {a t' o}, σ3 a = some (t', o) → t' ≠ 4 → (σ3.put L 4 (.list (vs ++ [.int t.past]))) a = some (t', o) := fun q n => Hp.tag hL3 n q
    have e4 : Extd σ (σ3.put L 4 (.list (vs ++ [.int t.past]))) := fun a p q => Hp.ne (fun e' => by rw [e', nL] at q; exact nomatch q) (e3' _ _ q)
    have hL4 : (σ3.put L 4 (.list (vs ++ [.int t.past]))) L = some (4, .list (vs ++ [.int t.past])) := Hp.self
    have hw4 := hw.keep (σ' := σ3.put L 4 (.list (vs ++ [.int t.past]))) (Kpt.put hL3 (by decide))
    have hT4 := k4 hT3 (by decide)
    have hvs4 : All2 (ItAt (σ3.put L 4 (.list (vs ++ [.int t.past])))) (vs ++ [.int t.past]) ((tms.take j).flatMap itemsT ++ [.inl t.past]) := (hvs3.imp fun _ _ q => ItAt.keep q fun q => k4 q (by decide)).append (.cons rfl .nil)
    generalize σ3.put L 4 (.list (vs ++ [.int t.past])) = σ4 at e4 hL4 hw4 hT4 hvs4 ⊢
    clear k4 hL3 hT3 hvs3 hW hw e3'
    have hW : σ4 W' = some (50, .inst a_Wheel [("past", .int t.past), ("sharers", .ref d')]) := hw4.whl
    with_reducible refine WSs.cons ?_
    with_reducible refine WS.for rfl (by with_unfolding_all (first | exact fun _ _ => rfl | exact fun _ _ _ => rfl)) ?_
    with_reducible refine WE.method (by with_unfolding_all (first | exact fun _ _ => rfl | exact fun _ _ _ => rfl)) rfl rfl rfl ?_
    with_reducible refine WE.localA (by kernel_rfl) (by kernel_rfl) (by walk_at "lk") ?_
    with_reducible refine WM.inst (by walk_at "hp") ms_Wheel_names (by kernel_rfl) ?_
    with_reducible refine And.intro (Callee.meth ms_Wheel_names) ?_
    with_reducible refine WEs.nil ?_
    refine WCall.of_fn (names_c 9 hw4 (by walk_at "om") fun N hN => ?_)
    refine ⟨_, _, Iterable.list (ListAt.own Hp.self), ?_⟩
    have hnn := hN.none
    refine WFor.byIdxO (fun m ρ' σ' => (∃ vs', σ' L = some (4, .list vs') ∧ All2 (ItAt σ') vs' ((tms.take j).flatMap itemsT ++ [.inl t.past] ++ (l'.take m).map fun x => .inr (core x)) ∧ vs'.length ≤ j * 1001 + 1 + m) ∧ Extd σ σ' ∧ WheelD σ' W' d' 50 t.past l' ∧ σ' T = some (9, .list ((tms.map (·.name)).map MV.str)) ∧ σ' N = some (9, .list ((l'.map (·.name)).map .str)) ∧ ρ' "_law_house" = some (.ref H) ∧ ρ' "_law_told_here" = some (.ref L) ∧ ρ' "_law_wheel" = some (.ref W')) ?_ ?_ ?_
    · exact ⟨⟨_, Hp.new hnn hL4, by rw [List.take_zero, List.map_nil, List.append_nil]; exact hvs4.imp fun _ _ q => ItAt.keep q fun q => Hp.new hnn q, by rw [List.length_append]; simp; walk_at "om"⟩, fun a p q => Hp.new hnn (e4 _ _ q), hw4.keep (Kpt.new hnn), Hp.new hnn hT4, Hp.self, by walk_at "lk", by walk_at "lk", by walk_at "lk"⟩
    · clear hL4 hw4 hT4 hvs4 hW hN hnn e4
      rintro m v ρ2 σ5 hv2 ⟨⟨vs', hL5, hvs5, vl5⟩, e5, hw5, hT5, hN5, q0, q1, q2⟩
      refine ⟨ListAt.own hN5, ?_⟩
      intro KM hKM
      rw [List.getElem?_map, List.getElem?_map] at hv2
      obtain ⟨nm, hnm2, rfl⟩ := Option.map_eq_some_iff.mp hv2
      obtain ⟨x, hx, rfl⟩ := Option.map_eq_some_iff.mp hnm2
      have ml : m < 1000 := Nat.lt_of_lt_of_le (List.getElem?_eq_some_iff.mp hx).1 ll
      have hW : σ5 W' = some (50, .inst a_Wheel [("past", .int t.past), ("sharers", .ref d')]) := hw5.whl
      with_reducible refine WSt.localA (by kernel_rfl) ?_
      with_reducible refine WSs.cons ?_
      with_reducible refine WS.expr (by with_unfolding_all (first | exact fun _ _ => rfl | exact fun _ _ _ => rfl)) ?_
      with_reducible refine WE.method (by with_unfolding_all (first | exact fun _ _ => rfl | exact fun _ _ _ => rfl)) rfl rfl rfl ?_
      with_reducible refine WE.localA (by kernel_rfl) (by kernel_rfl) (by walk_at "lk") ?_
      refine WM.listAppend hL5 ?_
      with_reducible refine And.intro (Callee.con rfl) ?_
      with_reducible refine WEs.cons rfl ?_
      refine WE.tuple 8 ?_
      with_reducible refine WEs.cons rfl ?_
      with_reducible refine WE.localA (by kernel_rfl) (by kernel_rfl) (by walk_at "lk") ?_
      with_reducible refine WEs.cons rfl ?_
      with_reducible refine WE.method (by with_unfolding_all (first | exact fun _ _ => rfl | exact fun _ _ _ => rfl)) rfl rfl rfl ?_
      with_reducible refine WE.localA (by kernel_rfl) (by kernel_rfl) (by walk_at "lk") ?_
      with_reducible refine WM.inst (by walk_at "hp") ms_Wheel_clock_of (by kernel_rfl) ?_
      with_reducible refine And.intro (Callee.meth ms_Wheel_clock_of) ?_
      with_reducible refine WEs.cons rfl ?_
      with_reducible refine WE.localA (by kernel_rfl) (by kernel_rfl) (by walk_at "lk") ?_
      with_reducible refine WEs.nil ?_
      refine WCall.of_fn (clock_c hw5 hx ?_)
      with_reducible refine WEs.cons rfl ?_
      with_reducible refine WE.method (by with_unfolding_all (first | exact fun _ _ => rfl | exact fun _ _ _ => rfl)) rfl rfl rfl ?_
      with_reducible refine WE.localA (by kernel_rfl) (by kernel_rfl) (by walk_at "lk") ?_
      with_reducible refine WM.inst (by walk_at "hp") ms_Wheel_share_of (by kernel_rfl) ?_
      with_reducible refine And.intro (Callee.meth ms_Wheel_share_of) ?_
      with_reducible refine WEs.cons rfl ?_
      with_reducible refine WE.localA (by kernel_rfl) (by kernel_rfl) (by walk_at "lk") ?_
      with_reducible refine WEs.nil ?_
      refine WCall.of_fn (share_c hw5 hx ?_)
      with_reducible refine WEs.cons rfl ?_
      with_reducible refine WE.method (by with_unfolding_all (first | exact fun _ _ => rfl | exact fun _ _ _ => rfl)) rfl rfl rfl ?_
      with_reducible refine WE.localA (by kernel_rfl) (by kernel_rfl) (by walk_at "lk") ?_
      with_reducible refine WM.inst (by walk_at "hp") ms_Wheel_is_ready (by kernel_rfl) ?_
      with_reducible refine And.intro (Callee.meth ms_Wheel_is_ready) ?_
      with_reducible refine WEs.cons rfl ?_
      with_reducible refine WE.localA (by kernel_rfl) (by kernel_rfl) (by walk_at "lk") ?_
      with_reducible refine WEs.nil ?_
      refine WCall.of_fn (ready_c hw5 hx ?_)
      with_reducible refine WEs.nil ?_
      refine ⟨by simp, fun u hu => ?_⟩
      with_reducible refine WEs.nil ?_
      refine WCall.append (Hp.new hu.none hL5) (by walk_at "om") ?_
      with_reducible refine WSs.nil ?_
      have k6 : ∀ {a t' o}, σ5 a = some (t', o) → t' ≠ 4 → ((σ5.put u 8 (.tuple [.str x.name, .int x.clock, .int x.share, .bool x.ready])).put L 4 (.list (vs' ++ [.ref u]))) a = some (t', o) := fun q n => Hp.tag (Hp.new hu.none hL5) n (Hp.new hu.none q)
      refine hKM _ _ ⟨⟨vs' ++ [.ref u], Hp.self, ?_, by rw [List.length_append]; simp; walk_at "om"⟩, fun a p q => Hp.ne (fun e' => by rw [e', nL] at q; exact nomatch q) (Hp.new hu.none (e5 _ _ q)), hw5.keep ⟨fun a o q => k6 q (by decide)⟩, k6 hT5 (by decide), k6 hN5 (by decide), by walk_at "lk", by walk_at "lk", by walk_at "lk"⟩
      rw [List.take_add_one, hx, List.map_append, ← List.append_assoc]
      exact (hvs5.imp fun _ _ q => ItAt.keep q fun q => k6 q (by decide)).append (.cons ⟨u, rfl, Hp.tag (Hp.new hu.none hL5) (by decide) Hp.self⟩ .nil)
    · rintro ρ2 σ5 ⟨⟨vs', hL5, hvs5, vl5⟩, e5, hw5, hT5, hN5, q0, q1, q2⟩
      refine ⟨ListAt.own hN5, ?_⟩
      rw [List.length_map, List.length_map] at hvs5 vl5
      rw [List.take_length] at hvs5
      with_reducible refine WSs.nil ?_
      refine hKL _ _ ⟨⟨vs', hL5, ?_, by walk_at "om"⟩, e5, hT5, q0, q1⟩
      rw [List.take_add_one, ht, List.flatMap_append]
      have : (some t).toList.flatMap itemsT = [.inl t.past] ++ l'.map fun x => .inr (core x) := by
        show itemsT t ++ [] = _
        rw [List.append_nil]
        unfold itemsT
        have hc2 := congrArg (List.map (fun c => (Sum.inr c : Int ⊕ (Str × Int × Int × Bool)))) hc
        rw [List.map_map, List.map_map] at hc2
        exact congrArg (Sum.inl t.past :: ·) hc2.symm
      rw [this, ← List.append_assoc]
      exact hvs5
  · rintro ρ' σ' ⟨⟨vs, hL, hvs, vl⟩, e, hT, r0, r1⟩
    refine ⟨ListAt.own hT, ?_⟩
    rw [List.length_map, List.length_map, List.take_length] at hvs
    with_reducible refine WSs.cons ?_
    with_reducible refine WS.ret ?_
    with_reducible refine WE.localA (by kernel_rfl) (by kernel_rfl) (by walk_at "lk") ?_
    exact hq L vs σ' hL hvs e
theorem hand_ShareError {m : Nat} {hn : Bool} {sc' : Scope} (h : sc'.names.lookup ("ShareError" : Str) = some .globalImplicit) : HandOk (cx w mean mg mb) ⟨m, hn, sc'⟩ "ShareError" a_ShareError := ⟨h, g_ShareError, by kernel_rfl, by kernel_rfl, by kernel_rfl⟩
theorem exc_BadCount : ExcOk (cx w mean mg mb).K a_BadCount := ⟨by kernel_rfl, by kernel_rfl, by kernel_rfl, by kernel_rfl, by kernel_rfl, by kernel_rfl⟩
/-- no count -/
def NoCount (w : World) (mean : ExcName → Option Value) (mg mb : Str → Option Value) (σ : Hp) (v : MV) : Prop := ∀ (Q' : MV → Hp → Prop) (X' : EX) (ρ' : Lo) (sc' : Scope) (m : Nat), Q' (.bool false) σ → WFn (cx w mean mg mb) ⟨m + 1, true, sc'⟩ a_is_whole [v, .int 0, .int 999] ρ' Q' X' σ
theorem NoCount.none : NoCount w mean mg mb σ .none := fun _ _ _ _ _ h => is_whole_not .none (.inr ⟨k_NoneType_bool, k_NoneType_int⟩) h
theorem NoCount.bool {b : Bool} : NoCount w mean mg mb σ (.bool b) := fun _ _ _ _ _ h => is_whole_not .bool (.inl k_bool_bool) h
theorem NoCount.str {x : Str} : NoCount w mean mg mb σ (.str x) := fun _ _ _ _ _ h => is_whole_not .str (.inr ⟨k_str_bool, k_str_int⟩) h
theorem NoCount.list {a t : Nat} {xs : List MV} (h : σ a = some (t, .list xs)) : NoCount w mean mg mb σ (.ref a) := fun _ _ _ _ _ q => is_whole_not (.list h) (.inr ⟨by kernel_rfl, by kernel_rfl⟩) q
theorem NoCount.int {k : Int} (h : ¬ (0 ≤ k ∧ k ≤ 999)) : NoCount w mean mg mb σ (.int k) := fun _ _ _ _ _ hq => is_whole_int (by
  have e : (decide (0 ≤ k) && decide (k ≤ 999)) = false := by rw [← Bool.decide_and]; exact decide_eq_false h
  rw [e]; exact hq)
theorem coming_bad {H dw da : Nat} {tm : List Team} {ab : List (Str × Str)} {v : MV} (h : HouseD σ H dw da tm ab) (hv : NoCount w mean mg mb σ v) (hx : ∀ e, X false a_BadCount e σ) : WFn (cx w mean mg mb) ⟨n + 6, true, sc⟩ m_House_coming [.ref H, v] ρ Q X σ := by
  refine WFn.fn2X (p1 := "self") (p2 := "count") ⟨⟨_, _, _, _, _, _, _, _, _, _, _, _, _, (rfl : (Mine.hd.heap_39 w.params).lookup m_House_coming = _), by kernel_rfl, us2 fun _ _ => rfl⟩, by kernel_rfl⟩ ?_
  with_reducible refine WSs.cons ?_
  with_reducible refine WS.ite ?_
  with_reducible refine WT.not ?_
  with_reducible refine WT.plain (by with_unfolding_all (first | exact fun _ _ => rfl | exact fun _ _ _ => rfl)) ?_
  with_reducible refine WE.call rfl rfl ?_
  with_reducible refine WE.globalA (by kernel_rfl) g_is_whole ?_
  with_reducible refine And.intro (Callee.fn fn_is_whole) ?_
  with_reducible refine WEs.cons rfl ?_
  with_reducible refine WE.localA (by kernel_rfl) (by kernel_rfl) (by walk_at "lk") ?_
  with_reducible refine WEs.cons rfl ?_
  with_reducible refine WE.int ?_
  with_reducible refine WEs.cons rfl ?_
  with_reducible refine WE.globalA (by kernel_rfl) g_MOST_COMING ?_
  with_reducible refine WEs.nil ?_
  refine WCall.of_fn (hv _ _ _ _ _ ?_)
  with_reducible refine WTr.bool ?_
  with_reducible refine if_nf ?_
  with_reducible refine WSs.cons ?_
  refine WS.raise rfl (by kernel_rfl) g_BadCount (by kernel_rfl) PySem.F.excBase_ValueError PySem.F.excBase_ValueError (by kernel_rfl) rfl ?_
  with_reducible refine WE.str ?_
  exact hx
theorem refused_c {H dw da : Nat} {tm : List Team} {ab : List (Str × Str)} {v : MV} (h : HouseD σ H dw da tm ab) (hv : NoCount w mean mg mb σ v) (hq : ∀ σ', Extd σ σ' → Q (.bool true) σ') : WFn (cx w mean mg mb) ⟨n + 7, true, sc⟩ a_law_refused [.ref H, v] ρ Q X σ := by
  have hH := h.hou
  refine WFn.fn2 (p1 := "_law_house") (p2 := "_law_count") ⟨⟨_, _, _, _, _, _, _, _, _, _, _, _, _, (rfl : (Mine.hd.heap_39 w.params).lookup a_law_refused = _), by kernel_rfl, us2 fun _ _ => rfl⟩, by kernel_rfl⟩ ?_
  with_reducible refine WSs.cons ?_
  refine WS.try ?_
  with_reducible refine WSs.cons ?_
  with_reducible refine WS.expr (by with_unfolding_all (first | exact fun _ _ => rfl | exact fun _ _ _ => rfl)) ?_
  with_reducible refine WE.method (by with_unfolding_all (first | exact fun _ _ => rfl | exact fun _ _ _ => rfl)) rfl rfl rfl ?_
  with_reducible refine WE.localA (by kernel_rfl) (by kernel_rfl) (by walk_at "lk") ?_
  with_reducible refine WM.inst (by walk_at "hp") ms_House_coming (by kernel_rfl) ?_
  with_reducible refine And.intro (Callee.meth ms_House_coming) ?_
  with_reducible refine WEs.cons rfl ?_
  with_reducible refine WE.localA (by kernel_rfl) (by kernel_rfl) (by walk_at "lk") ?_
  with_reducible refine WEs.nil ?_
  refine WCall.of_fn (coming_bad h hv fun e => ?_)
  refine ⟨rfl, WH.hitAsA 9 (hand_ShareError (by kernel_rfl)) (by kernel_rfl) (by kernel_rfl) fun he => ?_⟩
  have hE : (σ.put e 9 (.exc a_BadCount)) e = some (9, .exc a_BadCount) := Hp.self
  have e1 : Extd σ (σ.put e 9 (.exc a_BadCount)) := fun a p q => Hp.new he q
  generalize σ.put e 9 (.exc a_BadCount) = σ1 at hE e1 ⊢
  with_reducible refine WSs.cons ?_
  with_reducible refine WS.assign (by with_unfolding_all (first | exact fun _ _ => rfl | exact fun _ _ _ => rfl)) ?_
  with_reducible refine WE.or ?_
  with_reducible refine WE.call rfl rfl ?_
  with_reducible refine WE.globalA (by kernel_rfl) g_isinstance ?_
  with_reducible refine And.intro (Callee.con rfl) ?_
  with_reducible refine WEs.cons rfl ?_
  with_reducible refine WE.localA (by kernel_rfl) (by kernel_rfl) (by walk_at "lk") ?_
  with_reducible refine WEs.cons rfl ?_
  with_reducible refine WE.globalA (by kernel_rfl) g_NoName ?_
  with_reducible refine WEs.nil ?_
  refine WCall.isExc (b := false) hE exc_BadCount isRef (by kernel_rfl) ?_
  with_reducible refine WTr.bool ?_
  with_reducible refine if_ff ?_
  with_reducible refine WE.or ?_
  with_reducible refine WE.call rfl rfl ?_
  with_reducible refine WE.globalA (by kernel_rfl) g_isinstance ?_
  with_reducible refine And.intro (Callee.con rfl) ?_
  with_reducible refine WEs.cons rfl ?_
  with_reducible refine WE.localA (by kernel_rfl) (by kernel_rfl) (by walk_at "lk") ?_
  with_reducible refine WEs.cons rfl ?_
  with_reducible refine WE.globalA (by kernel_rfl) g_NotHand ?_
  with_reducible refine WEs.nil ?_
  refine WCall.isExc (b := false) hE exc_BadCount isRef (by kernel_rfl) ?_
  with_reducible refine WTr.bool ?_
  with_reducible refine if_ff ?_
  with_reducible refine WE.and1 ?_
  with_reducible refine WE.call rfl rfl ?_
  with_reducible refine WE.globalA (by kernel_rfl) g_isinstance ?_
  with_reducible refine And.intro (Callee.con rfl) ?_
  with_reducible refine WEs.cons rfl ?_
  with_reducible refine WE.localA (by kernel_rfl) (by kernel_rfl) (by walk_at "lk") ?_
  with_reducible refine WEs.cons rfl ?_
  with_reducible refine WE.globalA (by kernel_rfl) g_NotEmpty ?_
  with_reducible refine WEs.nil ?_
  refine WCall.isExc (b := false) hE exc_BadCount isRef (by kernel_rfl) ?_
  with_reducible refine WSt.localA (by kernel_rfl) ?_
  with_reducible refine WSs.cons ?_
  with_reducible refine WS.assign (by with_unfolding_all (first | exact fun _ _ => rfl | exact fun _ _ _ => rfl)) ?_
  with_reducible refine WE.or ?_
  with_reducible refine WE.localA (by kernel_rfl) (by kernel_rfl) (by walk_at "lk") ?_
  with_reducible refine WTr.bool ?_
  with_reducible refine if_ff ?_
  with_reducible refine WE.or ?_
  with_reducible refine WE.call rfl rfl ?_
  with_reducible refine WE.globalA (by kernel_rfl) g_isinstance ?_
  with_reducible refine And.intro (Callee.con rfl) ?_
  with_reducible refine WEs.cons rfl ?_
  with_reducible refine WE.localA (by kernel_rfl) (by kernel_rfl) (by walk_at "lk") ?_
  with_reducible refine WEs.cons rfl ?_
  with_reducible refine WE.globalA (by kernel_rfl) g_Twice ?_
  with_reducible refine WEs.nil ?_
  refine WCall.isExc (b := false) hE exc_BadCount isRef (by kernel_rfl) ?_
  with_reducible refine WTr.bool ?_
  with_reducible refine if_ff ?_
  with_reducible refine WE.or ?_
  with_reducible refine WE.call rfl rfl ?_
  with_reducible refine WE.globalA (by kernel_rfl) g_isinstance ?_
  with_reducible refine And.intro (Callee.con rfl) ?_
  with_reducible refine WEs.cons rfl ?_
  with_reducible refine WE.localA (by kernel_rfl) (by kernel_rfl) (by walk_at "lk") ?_
  with_reducible refine WEs.cons rfl ?_
  with_reducible refine WE.globalA (by kernel_rfl) g_NoTeam ?_
  with_reducible refine WEs.nil ?_
  refine WCall.isExc (b := false) hE exc_BadCount isRef (by kernel_rfl) ?_
  with_reducible refine WTr.bool ?_
  with_reducible refine if_ff ?_
  with_reducible refine WE.and1 ?_
  with_reducible refine WE.call rfl rfl ?_
  with_reducible refine WE.globalA (by kernel_rfl) g_isinstance ?_
  with_reducible refine And.intro (Callee.con rfl) ?_
  with_reducible refine WEs.cons rfl ?_
  with_reducible refine WE.localA (by kernel_rfl) (by kernel_rfl) (by walk_at "lk") ?_
  with_reducible refine WEs.cons rfl ?_
  with_reducible refine WE.globalA (by kernel_rfl) g_BadShare ?_
  with_reducible refine WEs.nil ?_
  refine WCall.isExc (b := false) hE exc_BadCount isRef (by kernel_rfl) ?_
  with_reducible refine WSt.localA (by kernel_rfl) ?_
  with_reducible refine WSs.cons ?_
  with_reducible refine WS.assign (by with_unfolding_all (first | exact fun _ _ => rfl | exact fun _ _ _ => rfl)) ?_
  with_reducible refine WE.or ?_
  with_reducible refine WE.localA (by kernel_rfl) (by kernel_rfl) (by walk_at "lk") ?_
  with_reducible refine WTr.bool ?_
  with_reducible refine if_ff ?_
  with_reducible refine WE.or ?_
  with_reducible refine WE.call rfl rfl ?_
  with_reducible refine WE.globalA (by kernel_rfl) g_isinstance ?_
  with_reducible refine And.intro (Callee.con rfl) ?_
  with_reducible refine WEs.cons rfl ?_
  with_reducible refine WE.localA (by kernel_rfl) (by kernel_rfl) (by walk_at "lk") ?_
  with_reducible refine WEs.cons rfl ?_
  with_reducible refine WE.globalA (by kernel_rfl) g_BadName ?_
  with_reducible refine WEs.nil ?_
  refine WCall.isExc (b := false) hE exc_BadCount isRef (by kernel_rfl) ?_
  with_reducible refine WTr.bool ?_
  with_reducible refine if_ff ?_
  with_reducible refine WE.and1 ?_
  with_reducible refine WE.call rfl rfl ?_
  with_reducible refine WE.globalA (by kernel_rfl) g_isinstance ?_
  with_reducible refine And.intro (Callee.con rfl) ?_
  with_reducible refine WEs.cons rfl ?_
  with_reducible refine WE.localA (by kernel_rfl) (by kernel_rfl) (by walk_at "lk") ?_
  with_reducible refine WEs.cons rfl ?_
  with_reducible refine WE.globalA (by kernel_rfl) g_NoDeed ?_
  with_reducible refine WEs.nil ?_
  refine WCall.isExc (b := false) hE exc_BadCount isRef (by kernel_rfl) ?_
  with_reducible refine WSt.localA (by kernel_rfl) ?_
  with_reducible refine WSs.cons ?_
  with_reducible refine WS.ret ?_
  with_reducible refine WE.and ?_
  with_reducible refine WE.call rfl rfl ?_
  with_reducible refine WE.globalA (by kernel_rfl) g_isinstance ?_
  with_reducible refine And.intro (Callee.con rfl) ?_
  with_reducible refine WEs.cons rfl ?_
  with_reducible refine WE.localA (by kernel_rfl) (by kernel_rfl) (by walk_at "lk") ?_
  with_reducible refine WEs.cons rfl ?_
  with_reducible refine WE.globalA (by kernel_rfl) g_BadCount ?_
  with_reducible refine WEs.nil ?_
  refine WCall.isExc (b := true) hE exc_BadCount isRef (by kernel_rfl) ?_
  with_reducible refine WTr.bool ?_
  with_reducible refine if_tt ?_
  with_reducible refine WE.and ?_
  with_reducible refine WE.call rfl rfl ?_
  with_reducible refine WE.globalA (by kernel_rfl) g_isinstance ?_
  with_reducible refine And.intro (Callee.con rfl) ?_
  with_reducible refine WEs.cons rfl ?_
  with_reducible refine WE.localA (by kernel_rfl) (by kernel_rfl) (by walk_at "lk") ?_
  with_reducible refine WEs.cons rfl ?_
  with_reducible refine WE.globalA (by kernel_rfl) g_ValueError ?_
  with_reducible refine WEs.nil ?_
  refine WCall.isExc (b := true) hE exc_BadCount isCon (by kernel_rfl) ?_
  with_reducible refine WTr.bool ?_
  with_reducible refine if_tt ?_
  with_reducible refine WE.and1 ?_
  with_reducible refine WE.unary ?_
  with_reducible refine WE.localA (by kernel_rfl) (by kernel_rfl) (by walk_at "lk") ?_
  with_reducible refine WU.not ?_
  with_reducible refine WTr.bool ?_
  exact hq σ1 e1
def KpS (σ σ' : Hp) : Prop := ∀ a t o, σ a = some (t, o) → t ≠ 1 → t ≠ 7 → t < 100 → σ' a = some (t, o)
theorem mark4 {σ : Hp} {H dw da B k u : Nat} {tm : List Team} {ab : List (Str × Str)} {R : List Row4} {ts : List Nat} {o : MO} (y : Row4) (h : HouseD σ H dw da tm ab) (hR : Rows4 σ B R ts) (hu : ts[k]? = some u) (hru : σ u = some (7, o)) :
    HouseD (σ.put u 7 (.list (rowW y))) H dw da tm ab ∧ Rows4 (σ.put u 7 (.list (rowW y))) B (R.set k y) ts ∧ (∀ a t o, σ a = some (t, o) → t ≠ 7 → (σ.put u 7 (.list (rowW y))) a = some (t, o)) ∧ (σ.put u 7 (.list (rowW y))) u = some (7, .list [.str y.name, .str y.up, .int y.share, .bool y.team, .bool y.here]) :=
  ⟨h.keep (fun q => Hp.tag hru (by decide) q) (fun q m100 => Hp.tag hru (by walk_at "om") q), hR.upd hu hru, fun a t o q m7 => Hp.tag hru m7 q, Hp.self⟩
theorem in_names {tm : List Team} {ab : List (Str × Str)} {R : List Row4} (rel : Rel4 tm ab R) (x : Str) : x ∈ (("" : Str) :: (R.filter fun r => r.team && r.here).map (·.name)) ↔ x ∈ tm.map (·.name) := by
  rw [rel.tns, List.mem_cons]
  refine or_congr_right ⟨fun q => ?_, fun ⟨k, r, h1, h2, h3, h4⟩ => ?_⟩
  · obtain ⟨r, hr, e⟩ := List.mem_map.mp q
    obtain ⟨a1, a2⟩ := List.mem_filter.mp hr
    obtain ⟨k, hk⟩ := List.mem_iff_getElem?.mp a1
    rw [Bool.and_eq_true] at a2
    exact ⟨k, r, hk, a2.2, a2.1, e⟩
  · exact List.mem_map.mpr ⟨r, List.mem_filter.mpr ⟨List.mem_of_getElem? h1, by rw [h2, h3]; rfl⟩, h4⟩
theorem any_eq {l : List Str} {x : Str} : l.any (· == x) = true ↔ x ∈ l := by
  rw [List.any_eq_true]
  exact ⟨fun ⟨y, h1, h2⟩ => by rw [← eq_of_beq h2]; exact h1, fun h => ⟨x, h, beq_self_eq_true x⟩⟩
theorem stirred_c {H dw da B N k u : Nat} {s kind share : Int} {tm : List Team} {ab : List (Str × Str)} {R : List Row4} {ts : List Nat} {r : Row4} (h : HouseD σ H dw da tm ab) (rel : Rel4 tm ab R) (hR : Rows4 σ B R ts) (ok : ROk4 s R) (rl : R.length ≤ 25) (bd : Bd N tm ab) (hN : N ≤ 400) (hk : R[k]? = some r) (hu : ts[k]? = some u) (s0 : 1 ≤ share) (s1 : share ≤ 12)
    (hq : ∀ tm' ab' R' σ', HouseD σ' H dw da tm' ab' → Rel4 tm' ab' R' → Rows4 σ' B R' ts → ROk4 s R' → R'.length = R.length → Bd (N + 1) tm' ab' → KpS σ σ' → Q .none σ') : WFn (cx w mean mg mb) ⟨n + 6, true, sc⟩ a_law_stirred [.ref H, .ref B, .ref u, .int kind, .int share] ρ Q X σ := by
  have tl := hR.len
  have hru : σ u = some (7, .list [.str r.name, .str r.up, .int r.share, .bool r.team, .bool r.here]) := by
    obtain ⟨u', h1, h2⟩ := hR.at hk
    have : u' = u := Option.some.inj (h1.symm.trans hu)
    rw [← this]; exact h2
  have hB := hR.lst
  have z0 : [MV.str r.name, .str r.up, .int r.share, .bool r.team, .bool r.here][Int.toNat 0]? = some (.str r.name) := rfl
  refine WFn.fn5 (p1 := "_law_house") (p2 := "_law_rows") (p3 := "_law_row") (p4 := "_law_kind") (p5 := "_law_share") ⟨⟨_, _, _, _, _, _, _, _, _, _, _, _, _, (rfl : (Mine.hd.heap_39 w.params).lookup a_law_stirred = _), by kernel_rfl, us5 fun _ _ _ _ _ => rfl⟩, by kernel_rfl⟩ ?_
  with_reducible refine WSs.cons ?_
  refine WS.assignCompA 9 rfl (by with_unfolding_all (first | exact fun _ _ => rfl | exact fun _ _ _ => rfl)) (by kernel_rfl) (by ((repeat (first | assumption | (refine Lo.put_ne (by kernel_rfl) ?_))); rfl)) (by kernel_rfl) (by kernel_rfl) ?_
  with_reducible refine WE.localA (by kernel_rfl) (by kernel_rfl) (by walk_at "lk") ?_
  refine ⟨_, _, Iterable.list (ListAt.own hB), by simp; walk_at "om", ?_⟩
  refine pick4 hR (fun q => (q.up == r.name) && q.here) (fun v q e K hK => ?_) (fun v K hK => ?_) fun us hus D hD => ?_
  · have y1 : [MV.str q.name, .str q.up, .int q.share, .bool q.team, .bool q.here][Int.toNat 1]? = some (.str q.up) := rfl
    have y4 : [MV.str q.name, .str q.up, .int q.share, .bool q.team, .bool q.here][Int.toNat 4]? = some (.bool q.here) := rfl
    cases hb : (q.up == r.name) with
    | false =>
      rw [hb] at hK
      with_reducible refine WT.bool ?_
      with_reducible refine WA.and ?_
      with_reducible refine WT.cmp1 rfl ?_
      with_reducible refine WE.sub ?_
      with_reducible refine WE.localA (by kernel_rfl) (by kernel_rfl) (by walk_at "lk") ?_
      with_reducible refine WE.int ?_
      with_reducible refine WSub.list (by with_unfolding_all (first | exact fun _ _ => rfl | exact fun _ _ _ => rfl)) (by first | with_reducible assumption | ((with_reducible apply ListAt.own); walk_at "hp") | ((with_reducible apply ListAt.k); walk_at "hp")) (by walk_at "ar") (by walk_at "ar") (by with_reducible assumption) ?_
      with_reducible refine WE.sub ?_
      with_reducible refine WE.cellA (by kernel_rfl) (by kernel_rfl) (by walk_at "lk") ?_
      with_reducible refine WE.int ?_
      with_reducible refine WSub.list (by with_unfolding_all (first | exact fun _ _ => rfl | exact fun _ _ _ => rfl)) (by first | with_reducible assumption | ((with_reducible apply ListAt.own); walk_at "hp") | ((with_reducible apply ListAt.k); walk_at "hp")) (by walk_at "ar") (by walk_at "ar") (by with_reducible assumption) ?_
      with_reducible refine WC.eqS ?_
      with_reducible refine WTr.bool ?_
      with_reducible refine if_pf (by with_reducible assumption) ?_
      exact hK
    | true =>
      cases hh : q.here with
      | false =>
        rw [hb, hh] at hK
        rw [hh] at e y1 y4
        with_reducible refine WT.bool ?_
        with_reducible refine WA.and ?_
        with_reducible refine WT.cmp1 rfl ?_
        with_reducible refine WE.sub ?_
        with_reducible refine WE.localA (by kernel_rfl) (by kernel_rfl) (by walk_at "lk") ?_
        with_reducible refine WE.int ?_
        with_reducible refine WSub.list (by with_unfolding_all (first | exact fun _ _ => rfl | exact fun _ _ _ => rfl)) (by first | with_reducible assumption | ((with_reducible apply ListAt.own); walk_at "hp") | ((with_reducible apply ListAt.k); walk_at "hp")) (by walk_at "ar") (by walk_at "ar") (by with_reducible assumption) ?_
        with_reducible refine WE.sub ?_
        with_reducible refine WE.cellA (by kernel_rfl) (by kernel_rfl) (by walk_at "lk") ?_
        with_reducible refine WE.int ?_
        with_reducible refine WSub.list (by with_unfolding_all (first | exact fun _ _ => rfl | exact fun _ _ _ => rfl)) (by first | with_reducible assumption | ((with_reducible apply ListAt.own); walk_at "hp") | ((with_reducible apply ListAt.k); walk_at "hp")) (by walk_at "ar") (by walk_at "ar") (by with_reducible assumption) ?_
        with_reducible refine WC.eqS ?_
        with_reducible refine WTr.bool ?_
        with_reducible refine if_pt (by with_reducible assumption) ?_
        with_reducible refine WA.and ?_
        with_reducible refine WT.plain (by with_unfolding_all (first | exact fun _ _ => rfl | exact fun _ _ _ => rfl)) ?_
        with_reducible refine WE.sub ?_
        with_reducible refine WE.localA (by kernel_rfl) (by kernel_rfl) (by walk_at "lk") ?_
        with_reducible refine WE.int ?_
        with_reducible refine WSub.list (by with_unfolding_all (first | exact fun _ _ => rfl | exact fun _ _ _ => rfl)) (by first | with_reducible assumption | ((with_reducible apply ListAt.own); walk_at "hp") | ((with_reducible apply ListAt.k); walk_at "hp")) (by walk_at "ar") (by walk_at "ar") (by with_reducible assumption) ?_
        with_reducible refine WTr.bool ?_
        with_reducible refine if_ff ?_
        exact hK
      | true =>
        rw [hb, hh] at hK
        rw [hh] at e y1 y4
        with_reducible refine WT.bool ?_
        with_reducible refine WA.and ?_
        with_reducible refine WT.cmp1 rfl ?_
        with_reducible refine WE.sub ?_
        with_reducible refine WE.localA (by kernel_rfl) (by kernel_rfl) (by walk_at "lk") ?_
        with_reducible refine WE.int ?_
        with_reducible refine WSub.list (by with_unfolding_all (first | exact fun _ _ => rfl | exact fun _ _ _ => rfl)) (by first | with_reducible assumption | ((with_reducible apply ListAt.own); walk_at "hp") | ((with_reducible apply ListAt.k); walk_at "hp")) (by walk_at "ar") (by walk_at "ar") (by with_reducible assumption) ?_
        with_reducible refine WE.sub ?_
        with_reducible refine WE.cellA (by kernel_rfl) (by kernel_rfl) (by walk_at "lk") ?_
        with_reducible refine WE.int ?_
        with_reducible refine WSub.list (by with_unfolding_all (first | exact fun _ _ => rfl | exact fun _ _ _ => rfl)) (by first | with_reducible assumption | ((with_reducible apply ListAt.own); walk_at "hp") | ((with_reducible apply ListAt.k); walk_at "hp")) (by walk_at "ar") (by walk_at "ar") (by with_reducible assumption) ?_
        with_reducible refine WC.eqS ?_
        with_reducible refine WTr.bool ?_
        with_reducible refine if_pt (by with_reducible assumption) ?_
        with_reducible refine WA.and ?_
        with_reducible refine WT.plain (by with_unfolding_all (first | exact fun _ _ => rfl | exact fun _ _ _ => rfl)) ?_
        with_reducible refine WE.sub ?_
        with_reducible refine WE.localA (by kernel_rfl) (by kernel_rfl) (by walk_at "lk") ?_
        with_reducible refine WE.int ?_
        with_reducible refine WSub.list (by with_unfolding_all (first | exact fun _ _ => rfl | exact fun _ _ _ => rfl)) (by first | with_reducible assumption | ((with_reducible apply ListAt.own); walk_at "hp") | ((with_reducible apply ListAt.k); walk_at "hp")) (by walk_at "ar") (by walk_at "ar") (by with_reducible assumption) ?_
        with_reducible refine WTr.bool ?_
        with_reducible refine if_tt ?_
        with_reducible refine WA.and_nil ?_
        exact hK
  · skip
    with_reducible refine WE.localA (by kernel_rfl) (by kernel_rfl) (by walk_at "lk") ?_
    exact hK
  have e1 : Extd σ (σ.put D 9 (.list (us.map .ref))) := fun a p q => Hp.new hD q
  have hD1 : (σ.put D 9 (.list (us.map .ref))) D = some (9, .list (us.map .ref)) := Hp.self
  generalize σ.put D 9 (.list (us.map .ref)) = σ1 at e1 hD1 ⊢
  clear hD
  have h1 := h.ext e1
  have hR1 := hR.ext e1
  have hru1 := e1 _ _ hru
  have hB1 := hR1.lst
  have hH1 := h1.hou
  have k1 : KpS σ σ1 := fun a t o q _ _ _ => e1 _ _ q
  clear hru hB h hR e1
  have z3 : [MV.str r.name, .str r.up, .int r.share, .bool r.team, .bool r.here][Int.toNat 3]? = some (.bool r.team) := rfl
  have z4 : [MV.str r.name, .str r.up, .int r.share, .bool r.team, .bool r.here][Int.toNat 4]? = some (.bool r.here) := rfl
  cases hhere : r.here with
  | true =>
    rw [hhere] at hru1 z0 z3 z4
    by_cases c2 : kind = 2
    · subst c2
      with_reducible refine WSs.cons ?_
      with_reducible refine WS.ite ?_
      with_reducible refine WT.not ?_
      with_reducible refine WT.plain (by with_unfolding_all (first | exact fun _ _ => rfl | exact fun _ _ _ => rfl)) ?_
      with_reducible refine WE.sub ?_
      with_reducible refine WE.cellA (by kernel_rfl) (by kernel_rfl) (by walk_at "lk") ?_
      with_reducible refine WE.int ?_
      with_reducible refine WSub.list (by with_unfolding_all (first | exact fun _ _ => rfl | exact fun _ _ _ => rfl)) (by first | with_reducible assumption | ((with_reducible apply ListAt.own); walk_at "hp") | ((with_reducible apply ListAt.k); walk_at "hp")) (by walk_at "ar") (by walk_at "ar") (by with_reducible assumption) ?_
      with_reducible refine WTr.bool ?_
      with_reducible refine if_nt ?_
      with_reducible refine WSs.cons ?_
      with_reducible refine WS.ite ?_
      with_reducible refine WT.cmp1 rfl ?_
      with_reducible refine WE.localA (by kernel_rfl) (by kernel_rfl) (by walk_at "lk") ?_
      with_reducible refine WE.int ?_
      with_reducible refine WC.eqI ?_
      with_reducible refine WTr.bool ?_
      with_reducible refine if_pt (by decide) ?_
      with_reducible refine WSs.cons ?_
      with_reducible refine WS.expr (by with_unfolding_all (first | exact fun _ _ => rfl | exact fun _ _ _ => rfl)) ?_
      with_reducible refine WE.method (by with_unfolding_all (first | exact fun _ _ => rfl | exact fun _ _ _ => rfl)) rfl rfl rfl ?_
      with_reducible refine WE.localA (by kernel_rfl) (by kernel_rfl) (by walk_at "lk") ?_
      with_reducible refine WM.inst (by walk_at "hp") ms_House_reshare (by kernel_rfl) ?_
      with_reducible refine And.intro (Callee.meth ms_House_reshare) ?_
      with_reducible refine WEs.cons rfl ?_
      with_reducible refine WE.sub ?_
      with_reducible refine WE.cellA (by kernel_rfl) (by kernel_rfl) (by walk_at "lk") ?_
      with_reducible refine WE.int ?_
      with_reducible refine WSub.list (by with_unfolding_all (first | exact fun _ _ => rfl | exact fun _ _ _ => rfl)) (by first | with_reducible assumption | ((with_reducible apply ListAt.own); walk_at "hp") | ((with_reducible apply ListAt.k); walk_at "hp")) (by walk_at "ar") (by walk_at "ar") (by with_reducible assumption) ?_
      with_reducible refine WEs.cons rfl ?_
      with_reducible refine WE.localA (by kernel_rfl) (by kernel_rfl) (by walk_at "lk") ?_
      with_reducible refine WEs.nil ?_
      refine WCall.of_fn (lreshare_c h1 rel bd hk hhere s0 s1 fun tm' σ2 v h2 rel2 bd2 k2 => ?_)
      with_reducible refine WSs.nil ?_
      with_reducible refine WSs.nil ?_
      with_reducible refine WSs.nil ?_
      exact hq tm' ab R σ2 h2 rel2 (hR1.keep (fun q => k2 _ _ _ q (by decide) (by decide)) (fun q => k2 _ _ _ q (by decide) (by decide))) ok rfl (bd2.up (Nat.le_succ _)) fun a t o q m1 m7 m100 => k2 _ _ _ (k1 _ _ _ q m1 m7 m100) m1 m100
    · have b2 : (kind == 2) = false := beq_eq_false_iff_ne.mpr c2
      have main : ∀ {Q' : MV → Hp → Prop} {σ2 : Hp}, r.team = false → Extd σ1 σ2 → (∀ tm' ab' R' σ', HouseD σ' H dw da tm' ab' → Rel4 tm' ab' R' → Rows4 σ' B R' ts → ROk4 s R' → R'.length = R.length → Bd (N + 1) tm' ab' → KpS σ σ' → ∀ v, Q' v σ') → (∀ {m : Nat} {sc' : Scope} {ρ' : Lo} {X' : EX}, WFn (cx w mean mg mb) ⟨m + 4, true, sc'⟩ m_House_rest [.ref H, .str r.name] ρ' Q' X' σ2) ∧ (∀ {m : Nat} {sc' : Scope} {ρ' : Lo} {X' : EX}, WFn (cx w mean mg mb) ⟨m + 4, true, sc'⟩ m_House_wake [.ref H, .str r.name] ρ' Q' X' σ2) := fun {Q' σ2} ht e2 hq' => by
        have fin : ∀ tm' σ3 v, HouseD σ3 H dw da tm' ab → Rel4 tm' ab R → Bd N tm' ab → KpH σ2 σ3 → Q' v σ3 := fun tm' σ3 v h3 rel3 bd3 k3 =>
          hq' tm' ab R σ3 h3 rel3 ((hR1.ext e2).keep (fun q => k3 _ _ _ q (by decide) (by decide)) (fun q => k3 _ _ _ q (by decide) (by decide))) ok rfl (bd3.up (Nat.le_succ _)) (fun a t o q m1 m7 m100 => k3 _ _ _ (e2 _ _ (k1 _ _ _ q m1 m7 m100)) m1 m100) v
        exact ⟨lrest_c (h1.ext e2) rel ok (by walk_at "om") bd hk hhere ht fin, lwake_c (h1.ext e2) rel ok (by walk_at "om") bd hk hhere ht fin⟩
      by_cases c3 : kind = 3
      · subst c3
        have b31 : ((3 : Int) == 1) = false := rfl
        with_reducible refine WSs.cons ?_
        with_reducible refine WS.ite ?_
        with_reducible refine WT.not ?_
        with_reducible refine WT.plain (by with_unfolding_all (first | exact fun _ _ => rfl | exact fun _ _ _ => rfl)) ?_
        with_reducible refine WE.sub ?_
        with_reducible refine WE.cellA (by kernel_rfl) (by kernel_rfl) (by walk_at "lk") ?_
        with_reducible refine WE.int ?_
        with_reducible refine WSub.list (by with_unfolding_all (first | exact fun _ _ => rfl | exact fun _ _ _ => rfl)) (by first | with_reducible assumption | ((with_reducible apply ListAt.own); walk_at "hp") | ((with_reducible apply ListAt.k); walk_at "hp")) (by walk_at "ar") (by walk_at "ar") (by with_reducible assumption) ?_
        with_reducible refine WTr.bool ?_
        with_reducible refine if_nt ?_
        with_reducible refine WSs.cons ?_
        with_reducible refine WS.ite ?_
        with_reducible refine WT.cmp1 rfl ?_
        with_reducible refine WE.localA (by kernel_rfl) (by kernel_rfl) (by walk_at "lk") ?_
        with_reducible refine WE.int ?_
        with_reducible refine WC.eqI ?_
        with_reducible refine WTr.bool ?_
        with_reducible refine if_pf (by with_reducible assumption) ?_
        with_reducible refine WSs.cons ?_
        with_reducible refine WS.ite ?_
        with_reducible refine WT.bool ?_
        with_reducible refine WA.and ?_
        with_reducible refine WT.cmp1 rfl ?_
        with_reducible refine WE.localA (by kernel_rfl) (by kernel_rfl) (by walk_at "lk") ?_
        with_reducible refine WE.int ?_
        with_reducible refine WC.eqI ?_
        with_reducible refine WTr.bool ?_
        with_reducible refine if_pt (by decide) ?_
        with_reducible refine WA.and ?_
        with_reducible refine WT.cmp1 rfl ?_
        with_reducible refine WE.localA (by kernel_rfl) (by kernel_rfl) (by walk_at "lk") ?_
        refine WE.list 9 ?_
        with_reducible refine WEs.nil ?_
        refine ⟨by simp, fun E hE => ?_⟩
        refine WC.eq (Nat.succ_le_succ (Nat.zero_le _)) (by decide) (eqNil (Hp.new hE.none hD1) Hp.self).1 ?_
        have e2 : Extd σ1 (σ1.put E 9 (.list [])) := fun a p q => Hp.new hE.none q
        generalize σ1.put E 9 (.list []) = σ2 at e2 ⊢
        have hru2 := e2 _ _ hru1
        have hH2 := e2 _ _ hH1
        have h2 := h1.ext e2
        have hR2 := hR1.ext e2
        clear hru1 hH1 hB1 hD1 hE
        cases us with
        | nil =>
          have hw : ∀ (m : Nat) (q : Row4), R[m]? = some q → q.here = true → q.up ≠ r.name := fun m q a1 a2 a3 => by
            have hf : R.filter (fun q => (q.up == r.name) && q.here) = [] := List.eq_nil_of_length_eq_zero hus.length.symm
            have := List.filter_eq_nil_iff.mp hf q (List.mem_of_getElem? a1)
            rw [a2, a3, beq_self_eq_true] at this
            exact this rfl
          show WTr _ _ (.bool true) _ _ _ _
          with_reducible refine WTr.bool ?_
          with_reducible refine if_tt ?_
          with_reducible refine WA.and_nil ?_
          with_reducible refine if_tt ?_
          with_reducible refine WSs.cons ?_
          with_reducible refine WS.expr (by with_unfolding_all (first | exact fun _ _ => rfl | exact fun _ _ _ => rfl)) ?_
          with_reducible refine WE.method (by with_unfolding_all (first | exact fun _ _ => rfl | exact fun _ _ _ => rfl)) rfl rfl rfl ?_
          with_reducible refine WE.localA (by kernel_rfl) (by kernel_rfl) (by walk_at "lk") ?_
          with_reducible refine WM.inst (by walk_at "hp") ms_House_leave (by kernel_rfl) ?_
          with_reducible refine And.intro (Callee.meth ms_House_leave) ?_
          with_reducible refine WEs.cons rfl ?_
          with_reducible refine WE.sub ?_
          with_reducible refine WE.cellA (by kernel_rfl) (by kernel_rfl) (by walk_at "lk") ?_
          with_reducible refine WE.int ?_
          with_reducible refine WSub.list (by with_unfolding_all (first | exact fun _ _ => rfl | exact fun _ _ _ => rfl)) (by first | with_reducible assumption | ((with_reducible apply ListAt.own); walk_at "hp") | ((with_reducible apply ListAt.k); walk_at "hp")) (by walk_at "ar") (by walk_at "ar") (by with_reducible assumption) ?_
          with_reducible refine WEs.nil ?_
          refine WCall.of_fn (lleave_c h2 rel ok (by walk_at "om") bd (by walk_at "om") hk hhere hw fun tm' ab' σ3 v h3 rel3 bd3 k3 => ?_)
          have hru3 := k3 _ _ _ hru2 (by decide) (by decide)
          have hR3 := hR2.keep (σ' := σ3) (fun q => k3 _ _ _ q (by decide) (by decide)) (fun q => k3 _ _ _ q (by decide) (by decide))
          clear hru2 hH2
          with_reducible refine WSs.cons ?_
          with_reducible refine WS.setItem (by with_unfolding_all (first | exact fun _ _ => rfl | exact fun _ _ _ => rfl)) ?_
          with_reducible refine WE.bool ?_
          with_reducible refine WE.cellA (by kernel_rfl) (by kernel_rfl) (by walk_at "lk") ?_
          with_reducible refine WE.int ?_
          refine WPut.list hru3 (by decide) (by simp) (by simp) ?_
          have ew : rowW { r with here := false } = [MV.str r.name, .str r.up, .int r.share, .bool r.team, .bool true].set (Int.toNat 4) (.bool false) := rfl
          rw [← ew]
          obtain ⟨h4, hR4, k4, _⟩ := mark4 { r with here := false } h3 hR3 hu hru3
          with_reducible refine WSs.nil ?_
          with_reducible refine WSs.nil ?_
          with_reducible refine WSs.nil ?_
          with_reducible refine WSs.nil ?_
          exact hq tm' ab' _ _ h4 rel3 hR4 (ok.alter hk rfl) (by rw [List.length_set]) (bd3.up (Nat.le_succ _)) fun a t o q m1 m7 m100 => k4 _ _ _ (k3 _ _ _ (e2 _ _ (k1 _ _ _ q m1 m7 m100)) m1 m100) m7
        | cons a us' =>
          show WTr _ _ (.bool false) _ _ _ _
          cases hteam : r.team with
          | true =>
            rw [hteam] at hru2 z0 z3 z4
            with_reducible refine WTr.bool ?_
            with_reducible refine if_ff ?_
            with_reducible refine if_ff ?_
            with_reducible refine WSs.cons ?_
            with_reducible refine WS.ite ?_
            with_reducible refine WT.not ?_
            with_reducible refine WT.plain (by with_unfolding_all (first | exact fun _ _ => rfl | exact fun _ _ _ => rfl)) ?_
            with_reducible refine WE.sub ?_
            with_reducible refine WE.cellA (by kernel_rfl) (by kernel_rfl) (by walk_at "lk") ?_
            with_reducible refine WE.int ?_
            with_reducible refine WSub.list (by with_unfolding_all (first | exact fun _ _ => rfl | exact fun _ _ _ => rfl)) (by first | with_reducible assumption | ((with_reducible apply ListAt.own); walk_at "hp") | ((with_reducible apply ListAt.k); walk_at "hp")) (by walk_at "ar") (by walk_at "ar") (by with_reducible assumption) ?_
            with_reducible refine WTr.bool ?_
            with_reducible refine if_nt ?_
            with_reducible refine WSs.nil ?_
            with_reducible refine WSs.nil ?_
            with_reducible refine WSs.nil ?_
            with_reducible refine WSs.nil ?_
            with_reducible refine WSs.nil ?_
            exact hq tm ab R σ2 h2 rel hR2 ok rfl (bd.up (Nat.le_succ _)) fun a t o q m1 m7 m100 => e2 _ _ (k1 _ _ _ q m1 m7 m100)
          | false =>
            rw [hteam] at hru2 z0 z3 z4
            with_reducible refine WTr.bool ?_
            with_reducible refine if_ff ?_
            with_reducible refine if_ff ?_
            with_reducible refine WSs.cons ?_
            with_reducible refine WS.ite ?_
            with_reducible refine WT.not ?_
            with_reducible refine WT.plain (by with_unfolding_all (first | exact fun _ _ => rfl | exact fun _ _ _ => rfl)) ?_
            with_reducible refine WE.sub ?_
            with_reducible refine WE.cellA (by kernel_rfl) (by kernel_rfl) (by walk_at "lk") ?_
            with_reducible refine WE.int ?_
            with_reducible refine WSub.list (by with_unfolding_all (first | exact fun _ _ => rfl | exact fun _ _ _ => rfl)) (by first | with_reducible assumption | ((with_reducible apply ListAt.own); walk_at "hp") | ((with_reducible apply ListAt.k); walk_at "hp")) (by walk_at "ar") (by walk_at "ar") (by with_reducible assumption) ?_
            with_reducible refine WTr.bool ?_
            with_reducible refine if_nf ?_
            with_reducible refine WSs.cons ?_
            with_reducible refine WS.ite ?_
            with_reducible refine WT.cmp1 rfl ?_
            with_reducible refine WE.localA (by kernel_rfl) (by kernel_rfl) (by walk_at "lk") ?_
            with_reducible refine WE.int ?_
            with_reducible refine WC.eqI ?_
            with_reducible refine WTr.bool ?_
            with_reducible refine if_pf (by with_reducible assumption) ?_
            with_reducible refine WSs.cons ?_
            with_reducible refine WS.expr (by with_unfolding_all (first | exact fun _ _ => rfl | exact fun _ _ _ => rfl)) ?_
            with_reducible refine WE.method (by with_unfolding_all (first | exact fun _ _ => rfl | exact fun _ _ _ => rfl)) rfl rfl rfl ?_
            with_reducible refine WE.localA (by kernel_rfl) (by kernel_rfl) (by walk_at "lk") ?_
            with_reducible refine WM.inst (by walk_at "hp") ms_House_wake (by kernel_rfl) ?_
            with_reducible refine And.intro (Callee.meth ms_House_wake) ?_
            with_reducible refine WEs.cons rfl ?_
            with_reducible refine WE.sub ?_
            with_reducible refine WE.cellA (by kernel_rfl) (by kernel_rfl) (by walk_at "lk") ?_
            with_reducible refine WE.int ?_
            with_reducible refine WSub.list (by with_unfolding_all (first | exact fun _ _ => rfl | exact fun _ _ _ => rfl)) (by first | with_reducible assumption | ((with_reducible apply ListAt.own); walk_at "hp") | ((with_reducible apply ListAt.k); walk_at "hp")) (by walk_at "ar") (by walk_at "ar") (by with_reducible assumption) ?_
            with_reducible refine WEs.nil ?_
            refine WCall.of_fn ((main hteam e2 fun tm' ab' R' σ3 a1 a2 a3 a4 a5 a6 a7 v => ?_).2)
            with_reducible refine WSs.nil ?_
            with_reducible refine WSs.nil ?_
            with_reducible refine WSs.nil ?_
            with_reducible refine WSs.nil ?_
            with_reducible refine WSs.nil ?_
            with_reducible refine WSs.nil ?_
            exact hq tm' ab' R' σ3 a1 a2 a3 a4 a5 a6 a7
      · have b3 : (kind == 3) = false := beq_eq_false_iff_ne.mpr c3
        cases hteam : r.team with
        | true =>
          rw [hteam] at hru1 z0 z3 z4
          with_reducible refine WSs.cons ?_
          with_reducible refine WS.ite ?_
          with_reducible refine WT.not ?_
          with_reducible refine WT.plain (by with_unfolding_all (first | exact fun _ _ => rfl | exact fun _ _ _ => rfl)) ?_
          with_reducible refine WE.sub ?_
          with_reducible refine WE.cellA (by kernel_rfl) (by kernel_rfl) (by walk_at "lk") ?_
          with_reducible refine WE.int ?_
          with_reducible refine WSub.list (by with_unfolding_all (first | exact fun _ _ => rfl | exact fun _ _ _ => rfl)) (by first | with_reducible assumption | ((with_reducible apply ListAt.own); walk_at "hp") | ((with_reducible apply ListAt.k); walk_at "hp")) (by walk_at "ar") (by walk_at "ar") (by with_reducible assumption) ?_
          with_reducible refine WTr.bool ?_
          with_reducible refine if_nt ?_
          with_reducible refine WSs.cons ?_
          with_reducible refine WS.ite ?_
          with_reducible refine WT.cmp1 rfl ?_
          with_reducible refine WE.localA (by kernel_rfl) (by kernel_rfl) (by walk_at "lk") ?_
          with_reducible refine WE.int ?_
          with_reducible refine WC.eqI ?_
          with_reducible refine WTr.bool ?_
          with_reducible refine if_pf (by with_reducible assumption) ?_
          with_reducible refine WSs.cons ?_
          with_reducible refine WS.ite ?_
          with_reducible refine WT.bool ?_
          with_reducible refine WA.and ?_
          with_reducible refine WT.cmp1 rfl ?_
          with_reducible refine WE.localA (by kernel_rfl) (by kernel_rfl) (by walk_at "lk") ?_
          with_reducible refine WE.int ?_
          with_reducible refine WC.eqI ?_
          with_reducible refine WTr.bool ?_
          with_reducible refine if_pf (by with_reducible assumption) ?_
          with_reducible refine if_ff ?_
          with_reducible refine WSs.cons ?_
          with_reducible refine WS.ite ?_
          with_reducible refine WT.not ?_
          with_reducible refine WT.plain (by with_unfolding_all (first | exact fun _ _ => rfl | exact fun _ _ _ => rfl)) ?_
          with_reducible refine WE.sub ?_
          with_reducible refine WE.cellA (by kernel_rfl) (by kernel_rfl) (by walk_at "lk") ?_
          with_reducible refine WE.int ?_
          with_reducible refine WSub.list (by with_unfolding_all (first | exact fun _ _ => rfl | exact fun _ _ _ => rfl)) (by first | with_reducible assumption | ((with_reducible apply ListAt.own); walk_at "hp") | ((with_reducible apply ListAt.k); walk_at "hp")) (by walk_at "ar") (by walk_at "ar") (by with_reducible assumption) ?_
          with_reducible refine WTr.bool ?_
          with_reducible refine if_nt ?_
          with_reducible refine WSs.nil ?_
          with_reducible refine WSs.nil ?_
          with_reducible refine WSs.nil ?_
          with_reducible refine WSs.nil ?_
          with_reducible refine WSs.nil ?_
          exact hq tm ab R σ1 h1 rel hR1 ok rfl (bd.up (Nat.le_succ _)) k1
        | false =>
          rw [hteam] at hru1 z0 z3 z4
          by_cases c1 : kind = 1
          · subst c1
            with_reducible refine WSs.cons ?_
            with_reducible refine WS.ite ?_
            with_reducible refine WT.not ?_
            with_reducible refine WT.plain (by with_unfolding_all (first | exact fun _ _ => rfl | exact fun _ _ _ => rfl)) ?_
            with_reducible refine WE.sub ?_
            with_reducible refine WE.cellA (by kernel_rfl) (by kernel_rfl) (by walk_at "lk") ?_
            with_reducible refine WE.int ?_
            with_reducible refine WSub.list (by with_unfolding_all (first | exact fun _ _ => rfl | exact fun _ _ _ => rfl)) (by first | with_reducible assumption | ((with_reducible apply ListAt.own); walk_at "hp") | ((with_reducible apply ListAt.k); walk_at "hp")) (by walk_at "ar") (by walk_at "ar") (by with_reducible assumption) ?_
            with_reducible refine WTr.bool ?_
            with_reducible refine if_nt ?_
            with_reducible refine WSs.cons ?_
            with_reducible refine WS.ite ?_
            with_reducible refine WT.cmp1 rfl ?_
            with_reducible refine WE.localA (by kernel_rfl) (by kernel_rfl) (by walk_at "lk") ?_
            with_reducible refine WE.int ?_
            with_reducible refine WC.eqI ?_
            with_reducible refine WTr.bool ?_
            with_reducible refine if_pf (by with_reducible assumption) ?_
            with_reducible refine WSs.cons ?_
            with_reducible refine WS.ite ?_
            with_reducible refine WT.bool ?_
            with_reducible refine WA.and ?_
            with_reducible refine WT.cmp1 rfl ?_
            with_reducible refine WE.localA (by kernel_rfl) (by kernel_rfl) (by walk_at "lk") ?_
            with_reducible refine WE.int ?_
            with_reducible refine WC.eqI ?_
            with_reducible refine WTr.bool ?_
            with_reducible refine if_pf (by with_reducible assumption) ?_
            with_reducible refine if_ff ?_
            with_reducible refine WSs.cons ?_
            with_reducible refine WS.ite ?_
            with_reducible refine WT.not ?_
            with_reducible refine WT.plain (by with_unfolding_all (first | exact fun _ _ => rfl | exact fun _ _ _ => rfl)) ?_
            with_reducible refine WE.sub ?_
            with_reducible refine WE.cellA (by kernel_rfl) (by kernel_rfl) (by walk_at "lk") ?_
            with_reducible refine WE.int ?_
            with_reducible refine WSub.list (by with_unfolding_all (first | exact fun _ _ => rfl | exact fun _ _ _ => rfl)) (by first | with_reducible assumption | ((with_reducible apply ListAt.own); walk_at "hp") | ((with_reducible apply ListAt.k); walk_at "hp")) (by walk_at "ar") (by walk_at "ar") (by with_reducible assumption) ?_
            with_reducible refine WTr.bool ?_
            with_reducible refine if_nf ?_
            with_reducible refine WSs.cons ?_
            with_reducible refine WS.ite ?_
            with_reducible refine WT.cmp1 rfl ?_
            with_reducible refine WE.localA (by kernel_rfl) (by kernel_rfl) (by walk_at "lk") ?_
            with_reducible refine WE.int ?_
            with_reducible refine WC.eqI ?_
            with_reducible refine WTr.bool ?_
            with_reducible refine if_pt (by decide) ?_
            with_reducible refine WSs.cons ?_
            with_reducible refine WS.expr (by with_unfolding_all (first | exact fun _ _ => rfl | exact fun _ _ _ => rfl)) ?_
            with_reducible refine WE.method (by with_unfolding_all (first | exact fun _ _ => rfl | exact fun _ _ _ => rfl)) rfl rfl rfl ?_
            with_reducible refine WE.localA (by kernel_rfl) (by kernel_rfl) (by walk_at "lk") ?_
            with_reducible refine WM.inst (by walk_at "hp") ms_House_rest (by kernel_rfl) ?_
            with_reducible refine And.intro (Callee.meth ms_House_rest) ?_
            with_reducible refine WEs.cons rfl ?_
            with_reducible refine WE.sub ?_
            with_reducible refine WE.cellA (by kernel_rfl) (by kernel_rfl) (by walk_at "lk") ?_
            with_reducible refine WE.int ?_
            with_reducible refine WSub.list (by with_unfolding_all (first | exact fun _ _ => rfl | exact fun _ _ _ => rfl)) (by first | with_reducible assumption | ((with_reducible apply ListAt.own); walk_at "hp") | ((with_reducible apply ListAt.k); walk_at "hp")) (by walk_at "ar") (by walk_at "ar") (by with_reducible assumption) ?_
            with_reducible refine WEs.nil ?_
            refine WCall.of_fn ((main hteam (fun _ _ q => q) fun tm' ab' R' σ3 a1 a2 a3 a4 a5 a6 a7 v => ?_).1)
            with_reducible refine WSs.nil ?_
            with_reducible refine WSs.nil ?_
            with_reducible refine WSs.nil ?_
            with_reducible refine WSs.nil ?_
            with_reducible refine WSs.nil ?_
            with_reducible refine WSs.nil ?_
            exact hq tm' ab' R' σ3 a1 a2 a3 a4 a5 a6 a7
          · have b1 : (kind == 1) = false := beq_eq_false_iff_ne.mpr c1
            with_reducible refine WSs.cons ?_
            with_reducible refine WS.ite ?_
            with_reducible refine WT.not ?_
            with_reducible refine WT.plain (by with_unfolding_all (first | exact fun _ _ => rfl | exact fun _ _ _ => rfl)) ?_
            with_reducible refine WE.sub ?_
            with_reducible refine WE.cellA (by kernel_rfl) (by kernel_rfl) (by walk_at "lk") ?_
            with_reducible refine WE.int ?_
            with_reducible refine WSub.list (by with_unfolding_all (first | exact fun _ _ => rfl | exact fun _ _ _ => rfl)) (by first | with_reducible assumption | ((with_reducible apply ListAt.own); walk_at "hp") | ((with_reducible apply ListAt.k); walk_at "hp")) (by walk_at "ar") (by walk_at "ar") (by with_reducible assumption) ?_
            with_reducible refine WTr.bool ?_
            with_reducible refine if_nt ?_
            with_reducible refine WSs.cons ?_
            with_reducible refine WS.ite ?_
            with_reducible refine WT.cmp1 rfl ?_
            with_reducible refine WE.localA (by kernel_rfl) (by kernel_rfl) (by walk_at "lk") ?_
            with_reducible refine WE.int ?_
            with_reducible refine WC.eqI ?_
            with_reducible refine WTr.bool ?_
            with_reducible refine if_pf (by with_reducible assumption) ?_
            with_reducible refine WSs.cons ?_
            with_reducible refine WS.ite ?_
            with_reducible refine WT.bool ?_
            with_reducible refine WA.and ?_
            with_reducible refine WT.cmp1 rfl ?_
            with_reducible refine WE.localA (by kernel_rfl) (by kernel_rfl) (by walk_at "lk") ?_
            with_reducible refine WE.int ?_
            with_reducible refine WC.eqI ?_
            with_reducible refine WTr.bool ?_
            with_reducible refine if_pf (by with_reducible assumption) ?_
            with_reducible refine if_ff ?_
            with_reducible refine WSs.cons ?_
            with_reducible refine WS.ite ?_
            with_reducible refine WT.not ?_
            with_reducible refine WT.plain (by with_unfolding_all (first | exact fun _ _ => rfl | exact fun _ _ _ => rfl)) ?_
            with_reducible refine WE.sub ?_
            with_reducible refine WE.cellA (by kernel_rfl) (by kernel_rfl) (by walk_at "lk") ?_
            with_reducible refine WE.int ?_
            with_reducible refine WSub.list (by with_unfolding_all (first | exact fun _ _ => rfl | exact fun _ _ _ => rfl)) (by first | with_reducible assumption | ((with_reducible apply ListAt.own); walk_at "hp") | ((with_reducible apply ListAt.k); walk_at "hp")) (by walk_at "ar") (by walk_at "ar") (by with_reducible assumption) ?_
            with_reducible refine WTr.bool ?_
            with_reducible refine if_nf ?_
            with_reducible refine WSs.cons ?_
            with_reducible refine WS.ite ?_
            with_reducible refine WT.cmp1 rfl ?_
            with_reducible refine WE.localA (by kernel_rfl) (by kernel_rfl) (by walk_at "lk") ?_
            with_reducible refine WE.int ?_
            with_reducible refine WC.eqI ?_
            with_reducible refine WTr.bool ?_
            with_reducible refine if_pf (by with_reducible assumption) ?_
            with_reducible refine WSs.cons ?_
            with_reducible refine WS.expr (by with_unfolding_all (first | exact fun _ _ => rfl | exact fun _ _ _ => rfl)) ?_
            with_reducible refine WE.method (by with_unfolding_all (first | exact fun _ _ => rfl | exact fun _ _ _ => rfl)) rfl rfl rfl ?_
            with_reducible refine WE.localA (by kernel_rfl) (by kernel_rfl) (by walk_at "lk") ?_
            with_reducible refine WM.inst (by walk_at "hp") ms_House_wake (by kernel_rfl) ?_
            with_reducible refine And.intro (Callee.meth ms_House_wake) ?_
            with_reducible refine WEs.cons rfl ?_
            with_reducible refine WE.sub ?_
            with_reducible refine WE.cellA (by kernel_rfl) (by kernel_rfl) (by walk_at "lk") ?_
            with_reducible refine WE.int ?_
            with_reducible refine WSub.list (by with_unfolding_all (first | exact fun _ _ => rfl | exact fun _ _ _ => rfl)) (by first | with_reducible assumption | ((with_reducible apply ListAt.own); walk_at "hp") | ((with_reducible apply ListAt.k); walk_at "hp")) (by walk_at "ar") (by walk_at "ar") (by with_reducible assumption) ?_
            with_reducible refine WEs.nil ?_
            refine WCall.of_fn ((main hteam (fun _ _ q => q) fun tm' ab' R' σ3 a1 a2 a3 a4 a5 a6 a7 v => ?_).2)
            with_reducible refine WSs.nil ?_
            with_reducible refine WSs.nil ?_
            with_reducible refine WSs.nil ?_
            with_reducible refine WSs.nil ?_
            with_reducible refine WSs.nil ?_
            with_reducible refine WSs.nil ?_
            exact hq tm' ab' R' σ3 a1 a2 a3 a4 a5 a6 a7
  | false =>
    rw [hhere] at hru1 z0 z3 z4
    have z1 : [MV.str r.name, .str r.up, .int r.share, .bool r.team, .bool false][Int.toNat 1]? = some (.str r.up) := rfl
    clear hD1 hus
    with_reducible refine WSs.cons ?_
    with_reducible refine WS.ite ?_
    with_reducible refine WT.not ?_
    with_reducible refine WT.plain (by with_unfolding_all (first | exact fun _ _ => rfl | exact fun _ _ _ => rfl)) ?_
    with_reducible refine WE.sub ?_
    with_reducible refine WE.cellA (by kernel_rfl) (by kernel_rfl) (by walk_at "lk") ?_
    with_reducible refine WE.int ?_
    with_reducible refine WSub.list (by with_unfolding_all (first | exact fun _ _ => rfl | exact fun _ _ _ => rfl)) (by first | with_reducible assumption | ((with_reducible apply ListAt.own); walk_at "hp") | ((with_reducible apply ListAt.k); walk_at "hp")) (by walk_at "ar") (by walk_at "ar") (by with_reducible assumption) ?_
    with_reducible refine WTr.bool ?_
    with_reducible refine if_nf ?_
    with_reducible refine WSs.cons ?_
    with_reducible refine WS.assign (by with_unfolding_all (first | exact fun _ _ => rfl | exact fun _ _ _ => rfl)) ?_
    with_reducible refine WE.binop ?_
    refine WE.list 9 ?_
    with_reducible refine WEs.cons rfl ?_
    with_reducible refine WE.str ?_
    with_reducible refine WEs.nil ?_
    refine ⟨by simp, fun S hS => ?_⟩
    have e2 : Extd σ1 (σ1.put S 9 (.list [.str ""])) := fun a p q => Hp.new hS.none q
    have hS2 : (σ1.put S 9 (.list [.str ""])) S = some (9, .list [.str ""]) := Hp.self
    generalize σ1.put S 9 (.list [.str ""]) = σ2 at e2 hS2 ⊢
    clear hS
    have hR2 := hR1.ext e2
    have hB2 := hR2.lst
    skip
    refine WE.compA 9 rfl (by with_unfolding_all (first | exact fun _ _ => rfl | exact fun _ _ _ => rfl)) (by kernel_rfl) (by ((repeat (first | assumption | (refine Lo.put_ne (by kernel_rfl) ?_))); rfl)) ?_
    with_reducible refine WE.localA (by kernel_rfl) (by kernel_rfl) (by walk_at "lk") ?_
    refine ⟨_, _, Iterable.list (ListAt.own hB2), by simp; walk_at "om", ?_⟩
    refine pickN hR2 (fun r => r.team && r.here) (fun v q e K hK => ?_) (fun v q e K hK => ?_) fun P hP => ?_
    · have y3 : [MV.str q.name, .str q.up, .int q.share, .bool q.team, .bool q.here][Int.toNat 3]? = some (.bool q.team) := rfl
      have y4 : [MV.str q.name, .str q.up, .int q.share, .bool q.team, .bool q.here][Int.toNat 4]? = some (.bool q.here) := rfl
      cases ht : q.team with
      | false =>
        rw [ht] at e y3 y4 hK
        with_reducible refine WT.bool ?_
        with_reducible refine WA.and ?_
        with_reducible refine WT.plain (by with_unfolding_all (first | exact fun _ _ => rfl | exact fun _ _ _ => rfl)) ?_
        with_reducible refine WE.sub ?_
        with_reducible refine WE.localA (by kernel_rfl) (by kernel_rfl) (by walk_at "lk") ?_
        with_reducible refine WE.int ?_
        with_reducible refine WSub.list (by with_unfolding_all (first | exact fun _ _ => rfl | exact fun _ _ _ => rfl)) (by first | with_reducible assumption | ((with_reducible apply ListAt.own); walk_at "hp") | ((with_reducible apply ListAt.k); walk_at "hp")) (by walk_at "ar") (by walk_at "ar") (by with_reducible assumption) ?_
        with_reducible refine WTr.bool ?_
        with_reducible refine if_ff ?_
        exact hK
      | true =>
        cases hh : q.here with
        | false =>
          rw [ht, hh] at e y3 y4 hK
          with_reducible refine WT.bool ?_
          with_reducible refine WA.and ?_
          with_reducible refine WT.plain (by with_unfolding_all (first | exact fun _ _ => rfl | exact fun _ _ _ => rfl)) ?_
          with_reducible refine WE.sub ?_
          with_reducible refine WE.localA (by kernel_rfl) (by kernel_rfl) (by walk_at "lk") ?_
          with_reducible refine WE.int ?_
          with_reducible refine WSub.list (by with_unfolding_all (first | exact fun _ _ => rfl | exact fun _ _ _ => rfl)) (by first | with_reducible assumption | ((with_reducible apply ListAt.own); walk_at "hp") | ((with_reducible apply ListAt.k); walk_at "hp")) (by walk_at "ar") (by walk_at "ar") (by with_reducible assumption) ?_
          with_reducible refine WTr.bool ?_
          with_reducible refine if_tt ?_
          with_reducible refine WA.and ?_
          with_reducible refine WT.plain (by with_unfolding_all (first | exact fun _ _ => rfl | exact fun _ _ _ => rfl)) ?_
          with_reducible refine WE.sub ?_
          with_reducible refine WE.localA (by kernel_rfl) (by kernel_rfl) (by walk_at "lk") ?_
          with_reducible refine WE.int ?_
          with_reducible refine WSub.list (by with_unfolding_all (first | exact fun _ _ => rfl | exact fun _ _ _ => rfl)) (by first | with_reducible assumption | ((with_reducible apply ListAt.own); walk_at "hp") | ((with_reducible apply ListAt.k); walk_at "hp")) (by walk_at "ar") (by walk_at "ar") (by with_reducible assumption) ?_
          with_reducible refine WTr.bool ?_
          with_reducible refine if_ff ?_
          exact hK
        | true =>
          rw [ht, hh] at e y3 y4 hK
          with_reducible refine WT.bool ?_
          with_reducible refine WA.and ?_
          with_reducible refine WT.plain (by with_unfolding_all (first | exact fun _ _ => rfl | exact fun _ _ _ => rfl)) ?_
          with_reducible refine WE.sub ?_
          with_reducible refine WE.localA (by kernel_rfl) (by kernel_rfl) (by walk_at "lk") ?_
          with_reducible refine WE.int ?_
          with_reducible refine WSub.list (by with_unfolding_all (first | exact fun _ _ => rfl | exact fun _ _ _ => rfl)) (by first | with_reducible assumption | ((with_reducible apply ListAt.own); walk_at "hp") | ((with_reducible apply ListAt.k); walk_at "hp")) (by walk_at "ar") (by walk_at "ar") (by with_reducible assumption) ?_
          with_reducible refine WTr.bool ?_
          with_reducible refine if_tt ?_
          with_reducible refine WA.and ?_
          with_reducible refine WT.plain (by with_unfolding_all (first | exact fun _ _ => rfl | exact fun _ _ _ => rfl)) ?_
          with_reducible refine WE.sub ?_
          with_reducible refine WE.localA (by kernel_rfl) (by kernel_rfl) (by walk_at "lk") ?_
          with_reducible refine WE.int ?_
          with_reducible refine WSub.list (by with_unfolding_all (first | exact fun _ _ => rfl | exact fun _ _ _ => rfl)) (by first | with_reducible assumption | ((with_reducible apply ListAt.own); walk_at "hp") | ((with_reducible apply ListAt.k); walk_at "hp")) (by walk_at "ar") (by walk_at "ar") (by with_reducible assumption) ?_
          with_reducible refine WTr.bool ?_
          with_reducible refine if_tt ?_
          with_reducible refine WA.and_nil ?_
          exact hK
    · have y0 : [MV.str q.name, .str q.up, .int q.share, .bool q.team, .bool q.here][Int.toNat 0]? = some (.str q.name) := rfl
      with_reducible refine WE.sub ?_
      with_reducible refine WE.localA (by kernel_rfl) (by kernel_rfl) (by walk_at "lk") ?_
      with_reducible refine WE.int ?_
      with_reducible refine WSub.list (by with_unfolding_all (first | exact fun _ _ => rfl | exact fun _ _ _ => rfl)) (by first | with_reducible assumption | ((with_reducible apply ListAt.own); walk_at "hp") | ((with_reducible apply ListAt.k); walk_at "hp")) (by walk_at "ar") (by walk_at "ar") (by with_reducible assumption) ?_
      exact hK
    have fl : (R.filter fun r => r.team && r.here).length ≤ 25 := Nat.le_trans (List.length_filter_le ..) rl
    refine WB.addL 9 (ListAt.own (Hp.new hP hS2)) (ListAt.own Hp.self) (by rw [List.length_map, List.length_map]; simp only [List.length_cons, List.length_nil]; walk_at "om") fun T hT => ?_
    have en : ([MV.str ""] ++ ((R.filter fun r => r.team && r.here).map (·.name)).map MV.str) = (("" : Str) :: (R.filter fun r => r.team && r.here).map (·.name)).map MV.str := rfl
    rw [en]
    have nin := in_names rel
    have nl : (("" : Str) :: (R.filter fun r => r.team && r.here).map (·.name)).length ≤ 26 := by rw [List.length_cons, List.length_map]; walk_at "om"
    have nl1 : 1 ≤ (("" : Str) :: (R.filter fun r => r.team && r.here).map (·.name)).length := by rw [List.length_cons]; walk_at "om"
    generalize (("" : Str) :: (R.filter fun r => r.team && r.here).map (·.name)) = nms at nin nl nl1 hT ⊢
    have e3 : Extd σ1 ((σ2.put P 9 (.list (((R.filter fun r => r.team && r.here).map (·.name)).map .str))).put T 9 (.list (nms.map MV.str))) := fun a p q => Hp.new hT.none (Hp.new hP (e2 _ _ q))
    have hT3 : ((σ2.put P 9 (.list (((R.filter fun r => r.team && r.here).map (·.name)).map .str))).put T 9 (.list (nms.map MV.str))) T = some (9, .list (nms.map MV.str)) := Hp.self
    generalize (σ2.put P 9 (.list (((R.filter fun r => r.team && r.here).map (·.name)).map .str))).put T 9 (.list (nms.map MV.str)) = σ3 at e3 hT3 ⊢
    clear hT hP e2 hS2 hR2 hB2
    have h3 := h1.ext e3
    have hR3 := hR1.ext e3
    have hru3 := e3 _ _ hru1
    have k3 : KpS σ σ3 := fun a t o q m1 m7 m100 => e3 _ _ (k1 _ _ _ q m1 m7 m100)
    clear h1 hR1 hru1 hB1 hH1 k1 e3
    with_reducible refine WSt.localA (by kernel_rfl) ?_
    refine WSs.splitO (fun ρ1 σ' => (∃ up1 : Str, HouseD σ' H dw da tm ab ∧ Rel4 tm ab (R.set k { r with up := up1 }) ∧ Rows4 σ' B (R.set k { r with up := up1 }) ts ∧ σ' u = some (7, .list [.str r.name, .str up1, .int r.share, .bool r.team, .bool false])) ∧ σ' T = some (9, .list (nms.map MV.str)) ∧ KpS σ σ' ∧ ρ1 "_law_house" = some (.ref H) ∧ ρ1 "_law_row" = some (.ref u) ∧ ρ1 "_law_share" = some (.int share) ∧ ρ1 "_law_teams" = some (.ref T)) ?_ ?_
    · intro KS hKS
      by_cases c4 : share.fmod 4 = 2
      · have tlm : ((nms.map MV.str).length : Int) = (nms.length : Int) := by rw [List.length_map]
        have nn1 : (1 : Int) ≤ (nms.length : Int) := by walk_at "om"
        have nn0 : (nms.length : Int) ≠ 0 := by walk_at "om"
        have i0 := fmod_ge (share.fdiv 4) nn1
        have i1 := fmod_lt (share.fdiv 4) nn1
        have i2 : (share.fdiv 4).fmod (nms.length : Int) < 2 ^ 63 := by walk_at "om"
        obtain ⟨ix, hix⟩ := Int.eq_ofNat_of_zero_le i0
        have ixl : ix < nms.length := by walk_at "om"
        have hx0 : nms[ix]? = some nms[ix] := List.getElem?_eq_getElem ixl
        generalize nms[ix] = x at hx0
        have hx1 : (nms.map MV.str)[((share.fdiv 4).fmod (nms.length : Int)).toNat]? = some (.str x) := by rw [hix, Int.toNat_natCast, List.getElem?_map, hx0]; rfl
        with_reducible refine WS.ite ?_
        with_reducible refine WT.cmp1 rfl ?_
        with_reducible refine WE.binop ?_
        with_reducible refine WE.localA (by kernel_rfl) (by kernel_rfl) (by walk_at "lk") ?_
        with_reducible refine WE.int ?_
        with_reducible refine WB.mod (by walk_at "ar") ?_
        with_reducible refine WE.int ?_
        with_reducible refine WC.eqI ?_
        with_reducible refine WTr.bool ?_
        with_reducible refine if_et (by with_reducible assumption) ?_
        with_reducible refine WSs.cons ?_
        with_reducible refine WS.setItem (by with_unfolding_all (first | exact fun _ _ => rfl | exact fun _ _ _ => rfl)) ?_
        with_reducible refine WE.sub ?_
        with_reducible refine WE.localA (by kernel_rfl) (by kernel_rfl) (by walk_at "lk") ?_
        with_reducible refine WE.binop ?_
        with_reducible refine WE.binop ?_
        with_reducible refine WE.localA (by kernel_rfl) (by kernel_rfl) (by walk_at "lk") ?_
        with_reducible refine WE.int ?_
        with_reducible refine WB.div (by walk_at "ar") (by walk_at "ar") ?_
        with_reducible refine WE.call rfl rfl ?_
        with_reducible refine WE.globalA (by kernel_rfl) g_len ?_
        with_reducible refine And.intro (Callee.con rfl) ?_
        with_reducible refine WEs.cons rfl ?_
        with_reducible refine WE.localA (by kernel_rfl) (by kernel_rfl) (by walk_at "lk") ?_
        with_reducible refine WEs.nil ?_
        refine WCall.lenList (ListAt.own hT3) (by rw [List.length_map]; walk_at "om") ?_
        rw [tlm]
        with_reducible refine WB.mod (by walk_at "ar") ?_
        with_reducible refine WSub.list (by with_unfolding_all (first | exact fun _ _ => rfl | exact fun _ _ _ => rfl)) (by first | with_reducible assumption | ((with_reducible apply ListAt.own); walk_at "hp") | ((with_reducible apply ListAt.k); walk_at "hp")) (by walk_at "ar") (by walk_at "ar") (by with_reducible assumption) ?_
        with_reducible refine WE.cellA (by kernel_rfl) (by kernel_rfl) (by walk_at "lk") ?_
        with_reducible refine WE.int ?_
        refine WPut.list hru3 (by decide) (by simp) (by simp) ?_
        have ew : rowW { r with up := x } = [MV.str r.name, .str r.up, .int r.share, .bool r.team, .bool false].set (Int.toNat 1) (.str x) := by unfold rowW; rw [hhere]; rfl
        rw [← ew]
        obtain ⟨h4, hR4, k4, hu4⟩ := mark4 { r with up := x } h3 hR3 hu hru3
        with_reducible refine WSs.nil ?_
        exact hKS _ _ ⟨⟨x, h4, rel.alter hk hhere hhere, hR4, by rw [hu4, hhere]⟩, k4 _ _ _ hT3 (by decide), fun a t o q m1 m7 m100 => k4 _ _ _ (k3 _ _ _ q m1 m7 m100) m7, by walk_at "lk", by walk_at "lk", by walk_at "lk", by walk_at "lk"⟩
      · have b4 : (share.fmod 4 == 2) = false := beq_eq_false_iff_ne.mpr c4
        have es : R.set k { r with up := r.up } = R := set_same hk
        with_reducible refine WS.ite ?_
        with_reducible refine WT.cmp1 rfl ?_
        with_reducible refine WE.binop ?_
        with_reducible refine WE.localA (by kernel_rfl) (by kernel_rfl) (by walk_at "lk") ?_
        with_reducible refine WE.int ?_
        with_reducible refine WB.mod (by walk_at "ar") ?_
        with_reducible refine WE.int ?_
        with_reducible refine WC.eqI ?_
        with_reducible refine WTr.bool ?_
        with_reducible refine if_pf (by with_reducible assumption) ?_
        with_reducible refine WSs.nil ?_
        exact hKS _ _ ⟨⟨r.up, h3, by rw [es]; exact rel, by rw [es]; exact hR3, hru3⟩, hT3, k3, by walk_at "lk", by walk_at "lk", by walk_at "lk", by walk_at "lk"⟩
    clear h3 hR3 hru3 k3 hT3
    rintro ρ1 σ4 ⟨⟨up1, h4, rel4, hR4, hu4⟩, hT4, k4, q0, q1, q2, q3⟩
    have hk4 : (R.set k { r with up := up1 })[k]? = some { r with up := up1 } := List.getElem?_set_self (List.getElem?_eq_some_iff.mp hk).1
    have ok4 : ROk4 s (R.set k { r with up := up1 }) := ok.alter hk rfl
    have w1 : [MV.str r.name, .str up1, .int r.share, .bool r.team, .bool false][Int.toNat 1]? = some (.str up1) := rfl
    have w3 : [MV.str r.name, .str up1, .int r.share, .bool r.team, .bool false][Int.toNat 3]? = some (.bool r.team) := rfl
    with_reducible refine WSs.cons ?_
    with_reducible refine WS.ite ?_
    with_reducible refine WT.cmp1 rfl ?_
    with_reducible refine WE.sub ?_
    with_reducible refine WE.cellA (by kernel_rfl) (by kernel_rfl) (by walk_at "lk") ?_
    with_reducible refine WE.int ?_
    with_reducible refine WSub.list (by with_unfolding_all (first | exact fun _ _ => rfl | exact fun _ _ _ => rfl)) (by first | with_reducible assumption | ((with_reducible apply ListAt.own); walk_at "hp") | ((with_reducible apply ListAt.k); walk_at "hp")) (by walk_at "ar") (by walk_at "ar") (by with_reducible assumption) ?_
    with_reducible refine WE.localA (by kernel_rfl) (by kernel_rfl) (by walk_at "lk") ?_
    refine WC.inL (ListAt.own hT4) ?_
    by_cases hin : up1 ∈ nms
    · rw [any_eq.mpr hin]
      have hup : up1 ∈ tm.map (·.name) := (nin up1).mp hin
      with_reducible refine WTr.bool ?_
      with_reducible refine if_tt ?_
      with_reducible refine WSs.cons ?_
      with_reducible refine WS.setItem (by with_unfolding_all (first | exact fun _ _ => rfl | exact fun _ _ _ => rfl)) ?_
      with_reducible refine WE.cmp1 rfl ?_
      with_reducible refine WE.sub ?_
      with_reducible refine WE.cellA (by kernel_rfl) (by kernel_rfl) (by walk_at "lk") ?_
      with_reducible refine WE.int ?_
      with_reducible refine WSub.list (by with_unfolding_all (first | exact fun _ _ => rfl | exact fun _ _ _ => rfl)) (by first | with_reducible assumption | ((with_reducible apply ListAt.own); walk_at "hp") | ((with_reducible apply ListAt.k); walk_at "hp")) (by walk_at "ar") (by walk_at "ar") (by with_reducible assumption) ?_
      with_reducible refine WE.cmp1 rfl ?_
      with_reducible refine WE.binop ?_
      with_reducible refine WE.localA (by kernel_rfl) (by kernel_rfl) (by walk_at "lk") ?_
      with_reducible refine WE.int ?_
      with_reducible refine WB.mod (by walk_at "ar") ?_
      with_reducible refine WE.int ?_
      with_reducible refine WC.eqI ?_
      with_reducible refine WC.neB ?_
      with_reducible refine WE.cellA (by kernel_rfl) (by kernel_rfl) (by walk_at "lk") ?_
      with_reducible refine WE.int ?_
      refine WPut.list hu4 (by decide) (by simp) (by simp) ?_
      generalize (r.team != (share.fmod 3 == 1)) = tb
      have ew : rowW { r with up := up1, team := tb } = [MV.str r.name, .str up1, .int r.share, .bool r.team, .bool false].set (Int.toNat 3) (.bool tb) := by unfold rowW; rw [hhere]; rfl
      rw [← ew]
      obtain ⟨h5, hR5, k5, hu5⟩ := mark4 { r with up := up1, team := tb } h4 hR4 hu hu4
      have rel5 := rel4.alter (r' := { r with up := up1, team := tb }) hk4 hhere hhere
      rw [List.set_set] at hR5 rel5
      have k6 : KpS σ (σ4.put u 7 (.list (rowW { r with up := up1, team := tb }))) := fun a t o q m1 m7 m100 => k5 _ _ _ (k4 _ _ _ q m1 m7 m100) m7
      generalize σ4.put u 7 (.list (rowW { r with up := up1, team := tb })) = σ5 at h5 hR5 hu5 k6 ⊢
      clear k5 h4 hR4 hu4 hT4 k4 ew
      have hk5 : (R.set k { r with up := up1, team := tb })[k]? = some { r with up := up1, team := tb } := List.getElem?_set_self (List.getElem?_eq_some_iff.mp hk).1
      have ok5 : ROk4 s (R.set k { r with up := up1, team := tb }) := ok.alter hk rfl
      have rl5 : (R.set k { r with up := up1, team := tb }).length ≤ 26 := by rw [List.length_set]; walk_at "om"
      have hu5' : σ5 u = some (7, .list [.str r.name, .str up1, .int r.share, .bool tb, .bool false]) := by rw [hu5, hhere]
      have hH5 := h5.hou
      clear hu5
      have x0 : [MV.str r.name, .str up1, .int r.share, .bool tb, .bool false][Int.toNat 0]? = some (.str r.name) := rfl
      have x1 : [MV.str r.name, .str up1, .int r.share, .bool tb, .bool false][Int.toNat 1]? = some (.str up1) := rfl
      have x3 : [MV.str r.name, .str up1, .int r.share, .bool tb, .bool false][Int.toNat 3]? = some (.bool tb) := rfl
      cases htb : tb with
      | true =>
        rw [htb] at hu5' x0 x1 x3 hk5 ok5 rl5 rel5 hR5
        with_reducible refine WSs.cons ?_
        with_reducible refine WS.ite ?_
        with_reducible refine WT.plain (by with_unfolding_all (first | exact fun _ _ => rfl | exact fun _ _ _ => rfl)) ?_
        with_reducible refine WE.sub ?_
        with_reducible refine WE.cellA (by kernel_rfl) (by kernel_rfl) (by walk_at "lk") ?_
        with_reducible refine WE.int ?_
        with_reducible refine WSub.list (by with_unfolding_all (first | exact fun _ _ => rfl | exact fun _ _ _ => rfl)) (by first | with_reducible assumption | ((with_reducible apply ListAt.own); walk_at "hp") | ((with_reducible apply ListAt.k); walk_at "hp")) (by walk_at "ar") (by walk_at "ar") (by with_reducible assumption) ?_
        with_reducible refine WTr.bool ?_
        with_reducible refine if_tt ?_
        with_reducible refine WSs.cons ?_
        with_reducible refine WS.expr (by with_unfolding_all (first | exact fun _ _ => rfl | exact fun _ _ _ => rfl)) ?_
        with_reducible refine WE.method (by with_unfolding_all (first | exact fun _ _ => rfl | exact fun _ _ _ => rfl)) rfl rfl rfl ?_
        with_reducible refine WE.localA (by kernel_rfl) (by kernel_rfl) (by walk_at "lk") ?_
        with_reducible refine WM.inst (by walk_at "hp") ms_House_team (by kernel_rfl) ?_
        with_reducible refine And.intro (Callee.meth ms_House_team) ?_
        with_reducible refine WEs.cons rfl ?_
        with_reducible refine WE.sub ?_
        with_reducible refine WE.cellA (by kernel_rfl) (by kernel_rfl) (by walk_at "lk") ?_
        with_reducible refine WE.int ?_
        with_reducible refine WSub.list (by with_unfolding_all (first | exact fun _ _ => rfl | exact fun _ _ _ => rfl)) (by first | with_reducible assumption | ((with_reducible apply ListAt.own); walk_at "hp") | ((with_reducible apply ListAt.k); walk_at "hp")) (by walk_at "ar") (by walk_at "ar") (by with_reducible assumption) ?_
        with_reducible refine WEs.cons rfl ?_
        with_reducible refine WE.sub ?_
        with_reducible refine WE.cellA (by kernel_rfl) (by kernel_rfl) (by walk_at "lk") ?_
        with_reducible refine WE.int ?_
        with_reducible refine WSub.list (by with_unfolding_all (first | exact fun _ _ => rfl | exact fun _ _ _ => rfl)) (by first | with_reducible assumption | ((with_reducible apply ListAt.own); walk_at "hp") | ((with_reducible apply ListAt.k); walk_at "hp")) (by walk_at "ar") (by walk_at "ar") (by with_reducible assumption) ?_
        with_reducible refine WEs.cons rfl ?_
        with_reducible refine WE.localA (by kernel_rfl) (by kernel_rfl) (by walk_at "lk") ?_
        with_reducible refine WEs.nil ?_
        refine WCall.of_fn (come_team (r := { r with up := up1, team := true }) h5 rel5 ok5 rl5 bd (by walk_at "om") hk5 hhere hup s0 s1 fun tm' ab' σ6 h6 rel6 bd6 kk => ?_)
        rw [List.set_set] at rel6
        have hu6 := kk _ _ _ hu5' (by decide) (by decide)
        have hR6 := hR5.keep (σ' := σ6) (fun q => kk _ _ _ q (by decide) (by decide)) (fun q => kk _ _ _ q (by decide) (by decide))
        clear hu5' hH5
        with_reducible refine WSs.nil ?_
        with_reducible refine WSs.cons ?_
        with_reducible refine WS.setItem (by with_unfolding_all (first | exact fun _ _ => rfl | exact fun _ _ _ => rfl)) ?_
        with_reducible refine WE.bool ?_
        with_reducible refine WE.cellA (by kernel_rfl) (by kernel_rfl) (by walk_at "lk") ?_
        with_reducible refine WE.int ?_
        refine WPut.list hu6 (by decide) (by simp) (by simp) ?_
        have ew : rowW { r with up := up1, team := true, here := true } = [MV.str r.name, .str up1, .int r.share, .bool true, .bool false].set (Int.toNat 4) (.bool true) := rfl
        rw [← ew]
        obtain ⟨h7, hR7, k7, _⟩ := mark4 { r with up := up1, team := true, here := true } h6 hR6 hu hu6
        rw [List.set_set] at hR7
        with_reducible refine WSs.nil ?_
        with_reducible refine WSs.nil ?_
        with_reducible refine WSs.nil ?_
        exact hq tm' ab' _ _ h7 rel6 hR7 (ok.alter hk rfl) (by rw [List.length_set]) bd6 fun a t o q m1 m7 m100 => k7 _ _ _ (kk _ _ _ (k6 _ _ _ q m1 m7 m100) m1 m100) m7
      | false =>
        rw [htb] at hu5' x0 x1 x3 hk5 ok5 rl5 rel5 hR5
        with_reducible refine WSs.cons ?_
        with_reducible refine WS.ite ?_
        with_reducible refine WT.plain (by with_unfolding_all (first | exact fun _ _ => rfl | exact fun _ _ _ => rfl)) ?_
        with_reducible refine WE.sub ?_
        with_reducible refine WE.cellA (by kernel_rfl) (by kernel_rfl) (by walk_at "lk") ?_
        with_reducible refine WE.int ?_
        with_reducible refine WSub.list (by with_unfolding_all (first | exact fun _ _ => rfl | exact fun _ _ _ => rfl)) (by first | with_reducible assumption | ((with_reducible apply ListAt.own); walk_at "hp") | ((with_reducible apply ListAt.k); walk_at "hp")) (by walk_at "ar") (by walk_at "ar") (by with_reducible assumption) ?_
        with_reducible refine WTr.bool ?_
        with_reducible refine if_ff ?_
        with_reducible refine WSs.cons ?_
        with_reducible refine WS.expr (by with_unfolding_all (first | exact fun _ _ => rfl | exact fun _ _ _ => rfl)) ?_
        with_reducible refine WE.method (by with_unfolding_all (first | exact fun _ _ => rfl | exact fun _ _ _ => rfl)) rfl rfl rfl ?_
        with_reducible refine WE.localA (by kernel_rfl) (by kernel_rfl) (by walk_at "lk") ?_
        with_reducible refine WM.inst (by walk_at "hp") ms_House_hand (by kernel_rfl) ?_
        with_reducible refine And.intro (Callee.meth ms_House_hand) ?_
        with_reducible refine WEs.cons rfl ?_
        with_reducible refine WE.sub ?_
        with_reducible refine WE.cellA (by kernel_rfl) (by kernel_rfl) (by walk_at "lk") ?_
        with_reducible refine WE.int ?_
        with_reducible refine WSub.list (by with_unfolding_all (first | exact fun _ _ => rfl | exact fun _ _ _ => rfl)) (by first | with_reducible assumption | ((with_reducible apply ListAt.own); walk_at "hp") | ((with_reducible apply ListAt.k); walk_at "hp")) (by walk_at "ar") (by walk_at "ar") (by with_reducible assumption) ?_
        with_reducible refine WEs.cons rfl ?_
        with_reducible refine WE.sub ?_
        with_reducible refine WE.cellA (by kernel_rfl) (by kernel_rfl) (by walk_at "lk") ?_
        with_reducible refine WE.int ?_
        with_reducible refine WSub.list (by with_unfolding_all (first | exact fun _ _ => rfl | exact fun _ _ _ => rfl)) (by first | with_reducible assumption | ((with_reducible apply ListAt.own); walk_at "hp") | ((with_reducible apply ListAt.k); walk_at "hp")) (by walk_at "ar") (by walk_at "ar") (by with_reducible assumption) ?_
        with_reducible refine WEs.cons rfl ?_
        with_reducible refine WE.localA (by kernel_rfl) (by kernel_rfl) (by walk_at "lk") ?_
        with_reducible refine WEs.nil ?_
        refine WCall.of_fn (come_hand (r := { r with up := up1, team := false }) h5 rel5 ok5 rl5 bd (by walk_at "om") hk5 hhere hup s0 s1 fun tm' ab' σ6 h6 rel6 bd6 kk => ?_)
        rw [List.set_set] at rel6
        have hu6 := kk _ _ _ hu5' (by decide) (by decide)
        have hR6 := hR5.keep (σ' := σ6) (fun q => kk _ _ _ q (by decide) (by decide)) (fun q => kk _ _ _ q (by decide) (by decide))
        clear hu5' hH5
        with_reducible refine WSs.nil ?_
        with_reducible refine WSs.cons ?_
        with_reducible refine WS.setItem (by with_unfolding_all (first | exact fun _ _ => rfl | exact fun _ _ _ => rfl)) ?_
        with_reducible refine WE.bool ?_
        with_reducible refine WE.cellA (by kernel_rfl) (by kernel_rfl) (by walk_at "lk") ?_
        with_reducible refine WE.int ?_
        refine WPut.list hu6 (by decide) (by simp) (by simp) ?_
        have ew : rowW { r with up := up1, team := false, here := true } = [MV.str r.name, .str up1, .int r.share, .bool false, .bool false].set (Int.toNat 4) (.bool true) := rfl
        rw [← ew]
        obtain ⟨h7, hR7, k7, _⟩ := mark4 { r with up := up1, team := false, here := true } h6 hR6 hu hu6
        rw [List.set_set] at hR7
        with_reducible refine WSs.nil ?_
        with_reducible refine WSs.nil ?_
        with_reducible refine WSs.nil ?_
        exact hq tm' ab' _ _ h7 rel6 hR7 (ok.alter hk rfl) (by rw [List.length_set]) bd6 fun a t o q m1 m7 m100 => k7 _ _ _ (kk _ _ _ (k6 _ _ _ q m1 m7 m100) m1 m100) m7
    · rw [show nms.any (· == up1) = false from Bool.eq_false_iff.mpr fun q => hin (any_eq.mp q)]
      with_reducible refine WTr.bool ?_
      with_reducible refine if_ff ?_
      with_reducible refine WSs.nil ?_
      with_reducible refine WSs.nil ?_
      with_reducible refine WSs.nil ?_
      exact hq tm ab _ σ4 h4 rel4 hR4 ok4 (by rw [List.length_set]) (bd.up (Nat.le_succ _)) k4
theorem deal_same {tm tm1 : List Team} {k : Nat} {p : List Str} (d : Deal tm k p tm1) : Same tm tm1 := by
  induction d with
  | @hand tm k t j x h1 h2 _ _ => exact Same.set h1 ⟨rfl, rfl, rfl, rfl, set_nsh (y := dealt x) h2 rfl rfl⟩
  | @team tm k t j x k' t' p tm' h1 h2 _ _ _ _ ih => exact Same.trans (Same.set (t' := dealtT t j x) h1 ⟨rfl, rfl, rfl, rfl, set_nsh (y := dealt x) h2 rfl rfl⟩) ih
theorem deal_len {ab : List (Str × Str)} {tm tm1 : List Team} {k : Nat} {p : List Str} (d : Deal tm k p tm1) : Tree tm ab → (ab.map (·.1)).Nodup → (tm.map (·.name)).Nodup → p.length + k ≤ tm.length := by
  induction d with
  | @hand tm k t j x h1 h2 _ _ =>
    intro _ _ _
    have := (List.getElem?_eq_some_iff.mp h1).1
    simp only [List.length_cons, List.length_nil]
    walk_at "om"
  | @team tm k t j x k' t' p tm' h1 h2 _ h4 h5 d ih =>
    intro tr an tn
    have sm : Same tm (tm.set k (dealtT t j x)) := Same.set h1 ⟨rfl, rfl, rfl, rfl, set_nsh (y := dealt x) h2 rfl rfl⟩
    have hi := ih (tr.same sm) an (by rw [sm.names]; exact tn)
    rw [List.length_set] at hi
    have hab := tr.mem k t j x h1 h2
    have pos : 0 < k' := Nat.pos_of_ne_zero fun q => by
      subst q
      obtain ⟨t2, e1, e2⟩ := tr.root
      have : t' = t2 := Option.some.inj (h4.symm.trans e1)
      subst this
      exact tr.top (List.mem_map.mpr ⟨_, hab, by rw [← h5, e2]⟩)
    obtain ⟨k5, u5, j5, y5, lt5, hu5, _, hj5, hy5⟩ := tr.up k' t' h4 pos
    have := uniq tr an tn h1 h2 hu5 hj5 (by rw [hy5, h5])
    rw [List.length_cons]
    walk_at "om"
theorem deals_len {ab : List (Str × Str)} {ta tb : List Team} {qs : List (List Str)} (d : Deals ta qs tb) : Tree ta ab → (ab.map (·.1)).Nodup → (ta.map (·.name)).Nodup → ta.length ≤ 1000 → ∀ p ∈ qs, p.length ≤ 1000000 := by
  induction d with
  | nil => intro _ _ _ _ p hp; exact nomatch hp
  | @cons tm p tm1 ps tm2 st d ih =>
    intro tr an tn hl q hq
    obtain ⟨t, h0, hst⟩ := st
    rcases hst with ⟨_, rfl, rfl⟩ | ⟨_, dd⟩
    · rcases List.mem_cons.mp hq with w | w
      · rw [w]; exact Nat.zero_le _
      · exact ih tr an tn hl q w
    · have sm := deal_same dd
      rcases List.mem_cons.mp hq with w | w
      · have := deal_len dd tr an tn
        rw [w]; walk_at "om"
      · exact ih (tr.same sm) an (by rw [sm.names]; exact tn) (by rw [sm.len]; exact hl) q w
theorem HouseD.kpg {σ σ' : Hp} {H dw da N : Nat} {tm : List Team} {ab : List (Str × Str)} (h : HouseD σ H dw da tm ab) (bd : Bd N tm ab) (hN : N ≤ 400) (k : KpG σ σ') : HouseD σ' H dw da tm ab :=
  ⟨k _ _ _ h.hou (by decide), k _ _ _ h.dws (by decide), k _ _ _ h.das (by decide), fun t ht => (h.whl t ht).keep ⟨fun a o q => k _ _ _ q (by have := bd.g t ht; walk_at "om")⟩, h.tn, h.tg, h.gg, h.an, h.dd⟩
theorem ldeal_c {H dw da N : Nat} {tm : List Team} {ab : List (Str × Str)} {R : List Row4} (h : HouseD σ H dw da tm ab) (rel : Rel4 tm ab R) (bd : Bd N tm ab) (hN : N ≤ 400)
    (hq : ∀ D p tm' σ', HouseD σ' H dw da tm' ab → Rel4 tm' ab R → Bd N tm' ab → σ' D = some (9, .list (p.map .str)) → Step tm p tm' → KpH σ σ' → Q (.ref D) σ') : WFn (cx w mean mg mb) ⟨n + 4, true, sc⟩ m_House_deal [.ref H] ρ Q X σ := by
  obtain ⟨t0, h0, _⟩ := rel.tr.root
  cases ha : anyR t0.l with
  | false => exact deal_noneT h rel.tr rel.sh h0 ha fun D σ' h' k' hD => hq D [] tm σ' h' rel bd hD ⟨t0, h0, .inl ⟨ha, rfl, rfl⟩⟩ (k'.kph h)
  | true => exact deal_cT h rel.tr rel.lk rel.sh h0 ha (by have := bd.tl; walk_at "om") fun D p tm' σ' h' k' hD dl sm lk sh => hq D p tm' σ' h' (rel.same sm lk) (bd.same sm) hD ⟨t0, h0, .inr ⟨ha, dl⟩⟩ (k'.kph h)
theorem Paths.keep {σ σ' : Hp} {L : Nat} {us : List Nat} {ps : List (List Str)} (h : Paths σ L us ps) (k : ∀ {a o}, σ a = some (9, o) → σ' a = some (9, o)) : Paths σ' L us ps := ⟨k h.lst, h.pth.imp fun _ _ q => k q⟩
def Held (σ : Hp) (v : MV) : Prop := ∃ u L us L2 us2 ps, v = .ref u ∧ σ u = some (8, .tuple [.ref L, .ref L2]) ∧ Paths σ L us ps ∧ Paths σ L2 us2 ps
theorem Held.keep {σ σ' : Hp} {v : MV} (h : Held σ v) (k8 : ∀ {a o}, σ a = some (8, o) → σ' a = some (8, o)) (k9 : ∀ {a o}, σ a = some (9, o) → σ' a = some (9, o)) : Held σ' v := by
  obtain ⟨u, L, us, L2, us2, ps, h1, h2, h3, h4⟩ := h
  exact ⟨u, L, us, L2, us2, ps, h1, k8 h2, h3.keep k9, h4.keep k9⟩
theorem strs_self {c : Cx} {σ : Hp} : ∀ p : List Str, EqVs c σ 0 (p.map .str) (p.map .str)
  | [] => .nil
  | x :: p => .cons (EqV.strT rfl) (strs_self p)
theorem pth_eqs {c : Cx} {σ : Hp} {us : List Nat} {ps : List (List Str)} (h : All2 (fun u (p : List Str) => σ u = some (9, .list (p.map .str))) us ps) : ∀ {us2 : List Nat}, All2 (fun u (p : List Str) => σ u = some (9, .list (p.map .str))) us2 ps → EqVs c σ 1 (us.map .ref) (us2.map .ref) := by
  induction h with
  | nil => intro us2 h; cases h; exact .nil
  | cons r _ ih =>
    intro us2 h
    cases h with | cons r' h' =>
    exact .cons (EqV.of_rc (RcV.listT (k := 0) (ListAt.own r) (ListAt.own r') (strs_self _))) (ih h')
theorem All2.take {α β : Type} {R : α → β → Prop} {l : List α} {m : List β} (h : All2 R l m) : ∀ n : Nat, All2 R (l.take n) (m.take n) := by
  induction h with
  | nil => intro n; simp; exact .nil
  | cons r _ ih =>
    intro n
    cases n with
    | zero => exact .nil
    | succ n => exact .cons r (ih n)
def KpA (σ σ' : Hp) : Prop := ∀ a t o, σ a = some (t, o) → t ≠ 1 → t ≠ 5 → t < 100 → σ' a = some (t, o)
theorem some_tms {tm : List Team} {ab : List (Str × Str)} {R : List Row4} (rel : Rel4 tm ab R) : ∃ tms : List Team, tms.map (·.name) = ("" : Str) :: (R.filter fun r => r.team && r.here).map (·.name) ∧ ∀ t ∈ tms, t ∈ tm := by
  have key : ∀ l : List Str, (∀ x ∈ l, x ∈ tm.map (·.name)) → ∃ tms : List Team, tms.map (·.name) = l ∧ ∀ t ∈ tms, t ∈ tm := by
    intro l
    induction l with
    | nil => exact fun _ => ⟨[], rfl, fun t h => nomatch h⟩
    | cons x l ih =>
      intro h
      obtain ⟨tms, h1, h2⟩ := ih fun y hy => h y (List.mem_cons_of_mem _ hy)
      obtain ⟨t, ht, e⟩ := List.mem_map.mp (h x (List.mem_cons_self ..))
      refine ⟨t :: tms, by rw [List.map_cons, h1, e], fun u hu => ?_⟩
      rcases List.mem_cons.mp hu with q | q
      · rw [q]; exact ht
      · exact h2 u q
  exact key _ fun x hx => (in_names rel x).mp hx
theorem ahead_c {H dw da B Hd N : Nat} {s way count : Int} {tm : List Team} {ab : List (Str × Str)} {R : List Row4} {ts : List Nat} {vs : List MV} (h : HouseD σ H dw da tm ab) (rel : Rel4 tm ab R) (hR : Rows4 σ B R ts) (rl : R.length ≤ 25) (bd : Bd N tm ab) (hN : N ≤ 400) (c0 : 0 ≤ count) (c1 : count ≤ 999) (hHd : σ Hd = some (5, .list vs)) (vl : vs.length ≤ 1000) (hld : ∀ v ∈ vs, Held σ v)
    (hq : ∀ tm' vs' σ', HouseD σ' H dw da tm' ab → Rel4 tm' ab R → Bd N tm' ab → Rows4 σ' B R ts → σ' Hd = some (5, .list vs') → vs'.length ≤ vs.length + 1 → (∀ v ∈ vs', Held σ' v) → KpA σ σ' → Q (.bool true) σ') : WFn (cx w mean mg mb) ⟨n + 7, true, sc⟩ a_law_ahead [.ref H, .ref B, .int count, .ref Hd, .int way] ρ Q X σ := by
  obtain ⟨cN, rfl⟩ := Int.eq_ofNat_of_zero_le c0
  obtain ⟨tms, tmn, tmm⟩ := some_tms rel
  have tlN := bd.tl
  have alN := bd.al
  have ll : ∀ t ∈ tm, t.l.length ≤ 1000 := fun t ht => Nat.le_trans (bd.l t ht) (by walk_at "om")
  refine WFn.fn5 (p1 := "_law_house") (p2 := "_law_rows") (p3 := "_law_count") (p4 := "_law_held") (p5 := "_law_way") ⟨⟨_, _, _, _, _, _, _, _, _, _, _, _, _, (rfl : (Mine.hd.heap_39 w.params).lookup a_law_ahead = _), by kernel_rfl, us5 fun _ _ _ _ _ => rfl⟩, by kernel_rfl⟩ ?_
  with_reducible refine WSs.cons ?_
  with_reducible refine WS.assign (by with_unfolding_all (first | exact fun _ _ => rfl | exact fun _ _ _ => rfl)) ?_
  with_reducible refine WE.call rfl rfl ?_
  with_reducible refine WE.globalA (by kernel_rfl) g_law_told ?_
  with_reducible refine And.intro (Callee.fn fn_law_told) ?_
  with_reducible refine WEs.cons rfl ?_
  with_reducible refine WE.localA (by kernel_rfl) (by kernel_rfl) (by walk_at "lk") ?_
  with_reducible refine WEs.cons rfl ?_
  with_reducible refine WE.localA (by kernel_rfl) (by kernel_rfl) (by walk_at "lk") ?_
  with_reducible refine WEs.nil ?_
  refine WCall.of_fn (told_c h hR (by walk_at "om") ll tmn tmm fun L1 v1 σ1 hL1 it1 e1 => ?_)
  with_reducible refine WSt.localA (by kernel_rfl) ?_
  with_reducible refine WSs.cons ?_
  with_reducible refine WS.assign (by with_unfolding_all (first | exact fun _ _ => rfl | exact fun _ _ _ => rfl)) ?_
  refine WE.list 9 ?_
  with_reducible refine WEs.nil ?_
  refine ⟨by simp, fun F0 hF0 => ?_⟩
  have e2 : Extd σ (σ1.put F0 9 (.list [])) := fun a p q => Hp.new hF0.none (e1 _ _ q)
  have hF2 : (σ1.put F0 9 (.list [])) F0 = some (9, .list []) := Hp.self
  have hL2 : (σ1.put F0 9 (.list [])) L1 = some (4, .list v1) := Hp.new hF0.none hL1
  have it2 := it1.imp fun _ _ q => ItAt.keep (σ' := σ1.put F0 9 (.list [])) q fun q => Hp.new hF0.none q
  generalize σ1.put F0 9 (.list []) = σ2 at e2 hF2 hL2 it2 ⊢
  clear hL1 it1 e1 hF0
  have h2 := h.ext e2
  have hH2 := h2.hou
  with_reducible refine WSt.localA (by kernel_rfl) ?_
  refine WSs.splitO (fun ρ1 σ' => (∃ F us ps tm1 tm2, Paths σ' F us ps ∧ tm1.map coreT = tm.map coreT ∧ Ndp tm1 ∧ Deals tm1 ps tm2 ∧ ps.length ≤ 1000 ∧ ρ1 "_law_fewer" = some (.ref F)) ∧ KpG σ2 σ' ∧ ρ1 "_law_house" = some (.ref H) ∧ ρ1 "_law_rows" = some (.ref B) ∧ ρ1 "_law_count" = some (.int (cN : Int)) ∧ ρ1 "_law_held" = some (.ref Hd) ∧ ρ1 "_law_way" = some (.int way) ∧ ρ1 "_law_before" = some (.ref L1) ∧ ρ1 (".0" : Str) = Option.none) ?_ ?_
  · intro KS hKS
    have no : ∃ F us ps tm1 tm2, Paths σ2 F us ps ∧ tm1.map coreT = tm.map coreT ∧ Ndp tm1 ∧ Deals tm1 ps tm2 ∧ ps.length ≤ 1000 ∧ F = F0 := ⟨F0, [], [], tm, tm, ⟨hF2, .nil⟩, rfl, h.ndp, .nil, Nat.zero_le _, rfl⟩
    obtain ⟨F, us, ps, tm1, tm2, a1, a2, a3, a4, a5, rfl⟩ := no
    by_cases w1 : way.fmod 2 = 1
    · by_cases w2 : (cN : Int) < 61
      · have f0 : 0 ≤ (cN : Int).fdiv 2 := Int.fdiv_nonneg (by walk_at "om") (by decide)
        have f1 : (cN : Int).fdiv 2 ≤ 61 := by
          rw [Int.fdiv_eq_ediv_of_nonneg _ (by decide)]; walk_at "om"
        with_reducible refine WS.ite ?_
        with_reducible refine WT.bool ?_
        with_reducible refine WA.and ?_
        with_reducible refine WT.cmp1 rfl ?_
        with_reducible refine WE.binop ?_
        with_reducible refine WE.localA (by kernel_rfl) (by kernel_rfl) (by walk_at "lk") ?_
        with_reducible refine WE.int ?_
        with_reducible refine WB.mod (by walk_at "ar") ?_
        with_reducible refine WE.int ?_
        with_reducible refine WC.eqI ?_
        with_reducible refine WTr.bool ?_
        with_reducible refine if_et (by with_reducible assumption) ?_
        with_reducible refine WA.and ?_
        with_reducible refine WT.cmp1 rfl ?_
        with_reducible refine WE.localA (by kernel_rfl) (by kernel_rfl) (by walk_at "lk") ?_
        with_reducible refine WE.int ?_
        with_reducible refine WC.lt ?_
        with_reducible refine WTr.bool ?_
        with_reducible refine if_dt (by with_reducible assumption) ?_
        with_reducible refine WA.and_nil ?_
        with_reducible refine if_tt ?_
        with_reducible refine WSs.cons ?_
        with_reducible refine WS.assign (by with_unfolding_all (first | exact fun _ _ => rfl | exact fun _ _ _ => rfl)) ?_
        with_reducible refine WE.method (by with_unfolding_all (first | exact fun _ _ => rfl | exact fun _ _ _ => rfl)) rfl rfl rfl ?_
        with_reducible refine WE.localA (by kernel_rfl) (by kernel_rfl) (by walk_at "lk") ?_
        with_reducible refine WM.inst (by walk_at "hp") ms_House_coming (by kernel_rfl) ?_
        with_reducible refine And.intro (Callee.meth ms_House_coming) ?_
        with_reducible refine WEs.cons rfl ?_
        with_reducible refine WE.binop ?_
        with_reducible refine WE.binop ?_
        with_reducible refine WE.localA (by kernel_rfl) (by kernel_rfl) (by walk_at "lk") ?_
        with_reducible refine WE.int ?_
        with_reducible refine WB.div (by walk_at "ar") (by walk_at "ar") ?_
        with_reducible refine WE.int ?_
        with_reducible refine WB.add ?_
        with_reducible refine WEs.nil ?_
        refine WCall.of_fn (coming_c h2 rel.tr rel.lk rel.sh (by walk_at "om") (by walk_at "om") (by walk_at "om") (by walk_at "om") fun L us ps tm1 tm2 σ' pa hc nd dl pl kg => ?_)
        with_reducible refine WSt.localA (by kernel_rfl) ?_
        with_reducible refine WSs.nil ?_
        exact hKS _ _ ⟨⟨L, us, ps, tm1, tm2, pa, hc, nd, dl, by walk_at "om", by walk_at "lk"⟩, kg, by walk_at "lk", by walk_at "lk", by walk_at "lk", by walk_at "lk", by walk_at "lk", by walk_at "lk", by ((repeat (first | assumption | (refine Lo.put_ne (by kernel_rfl) ?_))); rfl)⟩
      · skip
        with_reducible refine WS.ite ?_
        with_reducible refine WT.bool ?_
        with_reducible refine WA.and ?_
        with_reducible refine WT.cmp1 rfl ?_
        with_reducible refine WE.binop ?_
        with_reducible refine WE.localA (by kernel_rfl) (by kernel_rfl) (by walk_at "lk") ?_
        with_reducible refine WE.int ?_
        with_reducible refine WB.mod (by walk_at "ar") ?_
        with_reducible refine WE.int ?_
        with_reducible refine WC.eqI ?_
        with_reducible refine WTr.bool ?_
        with_reducible refine if_et (by with_reducible assumption) ?_
        with_reducible refine WA.and ?_
        with_reducible refine WT.cmp1 rfl ?_
        with_reducible refine WE.localA (by kernel_rfl) (by kernel_rfl) (by walk_at "lk") ?_
        with_reducible refine WE.int ?_
        with_reducible refine WC.lt ?_
        with_reducible refine WTr.bool ?_
        with_reducible refine if_df (by with_reducible assumption) ?_
        with_reducible refine if_ff ?_
        with_reducible refine WSs.nil ?_
        exact hKS _ _ ⟨⟨F, us, ps, tm1, tm2, a1, a2, a3, a4, a5, by walk_at "lk"⟩, fun a t o q _ => q, by walk_at "lk", by walk_at "lk", by walk_at "lk", by walk_at "lk", by walk_at "lk", by walk_at "lk", by ((repeat (first | assumption | (refine Lo.put_ne (by kernel_rfl) ?_))); rfl)⟩
    · have b1 : (way.fmod 2 == 1) = false := beq_eq_false_iff_ne.mpr w1
      with_reducible refine WS.ite ?_
      with_reducible refine WT.bool ?_
      with_reducible refine WA.and ?_
      with_reducible refine WT.cmp1 rfl ?_
      with_reducible refine WE.binop ?_
      with_reducible refine WE.localA (by kernel_rfl) (by kernel_rfl) (by walk_at "lk") ?_
      with_reducible refine WE.int ?_
      with_reducible refine WB.mod (by walk_at "ar") ?_
      with_reducible refine WE.int ?_
      with_reducible refine WC.eqI ?_
      with_reducible refine WTr.bool ?_
      with_reducible refine if_pf (by with_reducible assumption) ?_
      with_reducible refine if_ff ?_
      with_reducible refine WSs.nil ?_
      exact hKS _ _ ⟨⟨F, us, ps, tm1, tm2, a1, a2, a3, a4, a5, by walk_at "lk"⟩, fun a t o q _ => q, by walk_at "lk", by walk_at "lk", by walk_at "lk", by walk_at "lk", by walk_at "lk", by walk_at "lk", by ((repeat (first | assumption | (refine Lo.put_ne (by kernel_rfl) ?_))); rfl)⟩
  rintro ρ1 σ3 ⟨⟨F, fus, fps, ftm1, ftm2, fpa, fhc, fnd, fdl, fpl, q6⟩, kg3, q0, q1, q2, q3, q4, q5, q7⟩
  have h3 := h2.kpg bd hN kg3
  have hR3 := (hR.ext e2).keep (σ' := σ3) (fun q => kg3 _ _ _ q (by decide)) (fun q => kg3 _ _ _ q (by decide))
  have hL3 := kg3 _ _ _ hL2 (by decide)
  have it3 := it2.imp fun _ _ q => ItAt.keep (σ' := σ3) q fun q => kg3 _ _ _ q (by decide)
  have kp3 : KpG σ σ3 := fun a t o q m => kg3 _ _ _ (e2 _ _ q) m
  have hH3 := h3.hou
  clear h2 hH2 hL2 it2 e2 kg3 hF2
  with_reducible refine WSs.cons ?_
  with_reducible refine WS.assign (by with_unfolding_all (first | exact fun _ _ => rfl | exact fun _ _ _ => rfl)) ?_
  with_reducible refine WE.method (by with_unfolding_all (first | exact fun _ _ => rfl | exact fun _ _ _ => rfl)) rfl rfl rfl ?_
  with_reducible refine WE.localA (by kernel_rfl) (by kernel_rfl) (by walk_at "lk") ?_
  with_reducible refine WM.inst (by walk_at "hp") ms_House_coming (by kernel_rfl) ?_
  with_reducible refine And.intro (Callee.meth ms_House_coming) ?_
  with_reducible refine WEs.cons rfl ?_
  with_reducible refine WE.localA (by kernel_rfl) (by kernel_rfl) (by walk_at "lk") ?_
  with_reducible refine WEs.nil ?_
  refine WCall.of_fn (coming_c h3 rel.tr rel.lk rel.sh (by walk_at "om") (by walk_at "om") (by walk_at "om") (by walk_at "om") fun G us ps tm1 tm2 σ4 pa hc nd dl pl kg4 => ?_)
  have psl : ps.length = cN := by walk_at "om"
  have hplen : ∀ p ∈ ps, p.length ≤ 1000000 := deals_len dl (tree_core hc rel.tr) h3.an nd.tn (by have := congrArg List.length hc; rw [List.length_map, List.length_map] at this; walk_at "om")
  have h4 := h3.kpg bd hN kg4
  have hR4 := hR3.keep (σ' := σ4) (fun q => kg4 _ _ _ q (by decide)) (fun q => kg4 _ _ _ q (by decide))
  have hL4 := kg4 _ _ _ hL3 (by decide)
  have it4 := it3.imp fun _ _ q => ItAt.keep (σ' := σ4) q fun q => kg4 _ _ _ q (by decide)
  have kp4 : KpG σ σ4 := fun a t o q m => kg4 _ _ _ (kp3 _ _ _ q m) m
  have fpa4 := fpa.keep (σ' := σ4) fun q => kg4 _ _ _ q (by decide)
  have hH4 := h4.hou
  clear h3 hR3 hL3 it3 kp3 fpa hH3 kg4
  have hG4 := pa.lst
  have hF4 := fpa4.lst
  have usl : us.length = cN := by rw [pa.pth.length]; exact psl
  have fusl : fus.length = fps.length := fpa4.pth.length
  have lne : ((us.map MV.ref).length : Int) = (cN : Int) := by rw [List.length_map, usl]
  have flne : ((fus.map MV.ref).length : Int) = (fps.length : Int) := by rw [List.length_map, fusl]
  have bne0 : ((cN : Int) != (cN : Int)) = false := by simp
  with_reducible refine WSt.localA (by kernel_rfl) ?_
  with_reducible refine WSs.cons ?_
  with_reducible refine WS.ite ?_
  with_reducible refine WT.bool ?_
  with_reducible refine WA.or ?_
  with_reducible refine WT.not ?_
  with_reducible refine WT.plain (by with_unfolding_all (first | exact fun _ _ => rfl | exact fun _ _ _ => rfl)) ?_
  with_reducible refine WE.call rfl rfl ?_
  with_reducible refine WE.globalA (by kernel_rfl) g_isinstance ?_
  with_reducible refine And.intro (Callee.con rfl) ?_
  with_reducible refine WEs.cons rfl ?_
  with_reducible refine WE.localA (by kernel_rfl) (by kernel_rfl) (by walk_at "lk") ?_
  with_reducible refine WEs.cons rfl ?_
  with_reducible refine WE.globalA (by kernel_rfl) g_list ?_
  with_reducible refine WEs.nil ?_
  with_reducible refine WCall.isinstance (by first | with_reducible assumption | (with_reducible exact KindOf.int) | (with_reducible exact KindOf.str) | (with_reducible exact KindOf.bool) | (with_reducible exact KindOf.none) | ((with_reducible apply KindOf.list); walk_at "hp") | ((with_reducible apply KindOf.tuple); walk_at "hp")) k_list_list ?_
  with_reducible refine WTr.bool ?_
  with_reducible refine if_nt ?_
  with_reducible refine WA.or ?_
  with_reducible refine WT.cmp1 rfl ?_
  with_reducible refine WE.call rfl rfl ?_
  with_reducible refine WE.globalA (by kernel_rfl) g_len ?_
  with_reducible refine And.intro (Callee.con rfl) ?_
  with_reducible refine WEs.cons rfl ?_
  with_reducible refine WE.localA (by kernel_rfl) (by kernel_rfl) (by walk_at "lk") ?_
  with_reducible refine WEs.nil ?_
  refine WCall.lenList (ListAt.own hG4) (by rw [List.length_map]; walk_at "om") ?_
  rw [lne]
  with_reducible refine WE.localA (by kernel_rfl) (by kernel_rfl) (by walk_at "lk") ?_
  with_reducible refine WC.neI ?_
  with_reducible refine WTr.bool ?_
  with_reducible refine if_pf (by with_reducible assumption) ?_
  with_reducible refine WA.or ?_
  with_reducible refine WT.cmp1 rfl ?_
  refine WE.sliceTo 9 ?_
  with_reducible refine WE.localA (by kernel_rfl) (by kernel_rfl) (by walk_at "lk") ?_
  with_reducible refine WE.call rfl rfl ?_
  with_reducible refine WE.globalA (by kernel_rfl) g_len ?_
  with_reducible refine And.intro (Callee.con rfl) ?_
  with_reducible refine WEs.cons rfl ?_
  with_reducible refine WE.localA (by kernel_rfl) (by kernel_rfl) (by walk_at "lk") ?_
  with_reducible refine WEs.nil ?_
  refine WCall.lenList (ListAt.own hF4) (by rw [List.length_map]; walk_at "om") ?_
  rw [flne]
  skip
  refine ⟨G, _, fps.length, rfl, rfl, ListAt.own hG4, by rw [List.length_map]; walk_at "om", fun S1 hS1 => ?_⟩
  have hF5 : (σ4.put S1 9 (.list ((us.map MV.ref).take fps.length))) F = some (9, .list (fus.map .ref)) := Hp.new hS1.none hF4
  skip
  refine WE.sliceTo 9 ?_
  with_reducible refine WE.localA (by kernel_rfl) (by kernel_rfl) (by walk_at "lk") ?_
  with_reducible refine WE.localA (by kernel_rfl) (by kernel_rfl) (by walk_at "lk") ?_
  refine ⟨F, _, cN, rfl, rfl, ListAt.own hF5, by rw [List.length_map]; walk_at "om", fun S2 hS2 => ?_⟩
  have e5 : Extd σ4 ((σ4.put S1 9 (.list ((us.map MV.ref).take fps.length))).put S2 9 (.list ((fus.map MV.ref).take cN))) := fun a p q => Hp.new hS2.none (Hp.new hS1.none q)
  have hS5 : ((σ4.put S1 9 (.list ((us.map MV.ref).take fps.length))).put S2 9 (.list ((fus.map MV.ref).take cN))) S1 = some (9, .list ((us.take fps.length).map MV.ref)) := by rw [List.map_take]; exact Hp.new hS2.none Hp.self
  have hS6 : ((σ4.put S1 9 (.list ((us.map MV.ref).take fps.length))).put S2 9 (.list ((fus.map MV.ref).take cN))) S2 = some (9, .list ((fus.take cN).map MV.ref)) := by rw [List.map_take]; exact Hp.self
  generalize (σ4.put S1 9 (.list ((us.map MV.ref).take fps.length))).put S2 9 (.list ((fus.map MV.ref).take cN)) = σ5 at e5 hS5 hS6 ⊢
  clear hF5 hS1 hS2
  have pa5 := pa.keep (σ' := σ5) fun q => e5 _ _ q
  have fpa5 := fpa4.keep (σ' := σ5) fun q => e5 _ _ q
  have same1 : ps.take fps.length = fps.take cN := by
    have := deals_det fdl (hc.trans fhc.symm) fnd nd dl
    rw [psl] at this; exact this
  have sl1 := pa5.pth.take fps.length
  rw [same1] at sl1
  refine WC.ne (Nat.succ_le_succ (Nat.zero_le _)) (by decide) (RnV.listT (k := 1) (ListAt.own hS5) (ListAt.own hS6) (pth_eqs sl1 (fpa5.pth.take cN))) ?_
  have h5 := h4.ext e5
  have hR5 := hR4.ext e5
  have hL5 := e5 _ _ hL4
  have it5 := it4.imp fun _ _ q => ItAt.keep (σ' := σ5) q fun q => e5 _ _ q
  have kp5 : KpG σ σ5 := fun a t o q m => e5 _ _ (kp4 _ _ _ q m)
  have hH5 := h5.hou
  clear h4 hR4 hL4 it4 kp4 hH4 hG4 hF4 pa fpa4 fpa5 hS5 hS6 sl1 e5
  have hG5 := pa5.lst
  with_reducible refine WTr.bool ?_
  with_reducible refine if_ff ?_
  with_reducible refine WA.or_nil ?_
  with_reducible refine if_ff ?_
  with_reducible refine WSs.nil ?_
  refine WSs.splitO (fun ρ2 σ' => KpG σ5 σ' ∧ ρ2 "_law_house" = some (.ref H) ∧ ρ2 "_law_rows" = some (.ref B) ∧ ρ2 "_law_held" = some (.ref Hd) ∧ ρ2 "_law_found" = some (.ref G) ∧ ρ2 (".0" : Str) = Option.none) ?_ ?_
  · intro KS hKS
    have tail : ∀ {σ' : Hp}, KpG σ5 σ' → HouseD σ' H dw da tm ab ∧ Rows4 σ' B R ts ∧ σ' L1 = some (4, .list v1) ∧ All2 (ItAt σ') v1 (tms.flatMap itemsT) := fun {σ'} kg => ⟨h5.kpg bd hN kg, hR5.keep (fun q => kg _ _ _ q (by decide)) (fun q => kg _ _ _ q (by decide)), kg _ _ _ hL5 (by decide), it5.imp fun _ _ q => ItAt.keep q fun q => kg _ _ _ q (by decide)⟩
    by_cases w2 : (cN : Int) < 61
    · skip
      with_reducible refine WS.ite ?_
      with_reducible refine WT.bool ?_
      with_reducible refine WA.or ?_
      with_reducible refine WT.bool ?_
      with_reducible refine WA.and ?_
      with_reducible refine WT.cmp1 rfl ?_
      with_reducible refine WE.localA (by kernel_rfl) (by kernel_rfl) (by walk_at "lk") ?_
      with_reducible refine WE.int ?_
      with_reducible refine WC.lt ?_
      with_reducible refine WTr.bool ?_
      with_reducible refine if_dt (by with_reducible assumption) ?_
      with_reducible refine WA.and ?_
      with_reducible refine WT.cmp1 rfl ?_
      with_reducible refine WE.method (by with_unfolding_all (first | exact fun _ _ => rfl | exact fun _ _ _ => rfl)) rfl rfl rfl ?_
      with_reducible refine WE.localA (by kernel_rfl) (by kernel_rfl) (by walk_at "lk") ?_
      with_reducible refine WM.inst (by walk_at "hp") ms_House_coming (by kernel_rfl) ?_
      with_reducible refine And.intro (Callee.meth ms_House_coming) ?_
      with_reducible refine WEs.cons rfl ?_
      with_reducible refine WE.localA (by kernel_rfl) (by kernel_rfl) (by walk_at "lk") ?_
      with_reducible refine WEs.nil ?_
      refine WCall.of_fn (coming_c h5 rel.tr rel.lk rel.sh (by walk_at "om") (by walk_at "om") (by walk_at "om") (by walk_at "om") fun G2 us2 ps2 tm3 tm4 σ6 pa6 hc6 nd6 dl6 pl6 kg6 => ?_)
      have ps2e : ps2 = ps := by
        have l2 : ps2.length = cN := by walk_at "om"
        have := deals_det dl (hc6.trans hc.symm) nd nd6 dl6
        rw [psl, l2, List.take_of_length_le (by walk_at "om"), List.take_of_length_le (by walk_at "om")] at this
        exact this
      subst ps2e
      with_reducible refine WE.localA (by kernel_rfl) (by kernel_rfl) (by walk_at "lk") ?_
      refine WC.ne (Nat.succ_le_succ (Nat.zero_le _)) (by decide) (RnV.listT (k := 1) (ListAt.own pa6.lst) (ListAt.own (kg6 _ _ _ hG5 (by decide))) (pth_eqs pa6.pth (pa5.pth.imp fun _ _ q => kg6 _ _ _ q (by decide)))) ?_
      obtain ⟨t1, t2, t3, t4⟩ := tail kg6
      with_reducible refine WTr.bool ?_
      with_reducible refine if_ff ?_
      with_reducible refine if_ff ?_
      with_reducible refine WA.or ?_
      with_reducible refine WT.cmp1 rfl ?_
      with_reducible refine WE.call rfl rfl ?_
      with_reducible refine WE.globalA (by kernel_rfl) g_law_told ?_
      with_reducible refine And.intro (Callee.fn fn_law_told) ?_
      with_reducible refine WEs.cons rfl ?_
      with_reducible refine WE.localA (by kernel_rfl) (by kernel_rfl) (by walk_at "lk") ?_
      with_reducible refine WEs.cons rfl ?_
      with_reducible refine WE.localA (by kernel_rfl) (by kernel_rfl) (by walk_at "lk") ?_
      with_reducible refine WEs.nil ?_
      refine WCall.of_fn (told_c t1 t2 (by walk_at "om") ll tmn tmm fun L7 v7 σ7 hL7 it7 e7 => ?_)
      with_reducible refine WE.localA (by kernel_rfl) (by kernel_rfl) (by walk_at "lk") ?_
      refine WC.ne (Nat.succ_le_succ (Nat.zero_le _)) (by decide) (RnV.listT (k := 1) (ListAt.own hL7) (ListAt.own (e7 _ _ t3)) (its_eq it7 (t4.imp fun _ _ q => ItAt.keep q fun q => e7 _ _ q))) ?_
      with_reducible refine WTr.bool ?_
      with_reducible refine if_ff ?_
      with_reducible refine WA.or_nil ?_
      with_reducible refine if_ff ?_
      with_reducible refine WSs.nil ?_
      exact hKS _ _ ⟨fun a t o q m => e7 _ _ (kg6 _ _ _ q m), by walk_at "lk", by walk_at "lk", by walk_at "lk", by walk_at "lk", by ((repeat (first | assumption | (refine Lo.put_ne (by kernel_rfl) ?_))))⟩
    · obtain ⟨t1, t2, t3, t4⟩ := tail (σ' := σ5) fun a t o q _ => q
      with_reducible refine WS.ite ?_
      with_reducible refine WT.bool ?_
      with_reducible refine WA.or ?_
      with_reducible refine WT.bool ?_
      with_reducible refine WA.and ?_
      with_reducible refine WT.cmp1 rfl ?_
      with_reducible refine WE.localA (by kernel_rfl) (by kernel_rfl) (by walk_at "lk") ?_
      with_reducible refine WE.int ?_
      with_reducible refine WC.lt ?_
      with_reducible refine WTr.bool ?_
      with_reducible refine if_df (by with_reducible assumption) ?_
      with_reducible refine if_ff ?_
      with_reducible refine WA.or ?_
      with_reducible refine WT.cmp1 rfl ?_
      with_reducible refine WE.call rfl rfl ?_
      with_reducible refine WE.globalA (by kernel_rfl) g_law_told ?_
      with_reducible refine And.intro (Callee.fn fn_law_told) ?_
      with_reducible refine WEs.cons rfl ?_
      with_reducible refine WE.localA (by kernel_rfl) (by kernel_rfl) (by walk_at "lk") ?_
      with_reducible refine WEs.cons rfl ?_
      with_reducible refine WE.localA (by kernel_rfl) (by kernel_rfl) (by walk_at "lk") ?_
      with_reducible refine WEs.nil ?_
      refine WCall.of_fn (told_c t1 t2 (by walk_at "om") ll tmn tmm fun L7 v7 σ7 hL7 it7 e7 => ?_)
      with_reducible refine WE.localA (by kernel_rfl) (by kernel_rfl) (by walk_at "lk") ?_
      refine WC.ne (Nat.succ_le_succ (Nat.zero_le _)) (by decide) (RnV.listT (k := 1) (ListAt.own hL7) (ListAt.own (e7 _ _ t3)) (its_eq it7 (t4.imp fun _ _ q => ItAt.keep q fun q => e7 _ _ q))) ?_
      with_reducible refine WTr.bool ?_
      with_reducible refine if_ff ?_
      with_reducible refine WA.or_nil ?_
      with_reducible refine if_ff ?_
      with_reducible refine WSs.nil ?_
      exact hKS _ _ ⟨fun a t o q m => e7 _ _ q, by walk_at "lk", by walk_at "lk", by walk_at "lk", by walk_at "lk", by ((repeat (first | assumption | (refine Lo.put_ne (by kernel_rfl) ?_))))⟩
  clear q0 q1 q2 q3 q4 q5 q6 q7
  rintro ρ2 σ6 ⟨kg6, q0, q1, q3, q6, q7⟩
  have h6 := h5.kpg bd hN kg6
  have hR6 := hR5.keep (σ' := σ6) (fun q => kg6 _ _ _ q (by decide)) (fun q => kg6 _ _ _ q (by decide))
  have kp6 : KpG σ σ6 := fun a t o q m => kg6 _ _ _ (kp5 _ _ _ q m) m
  have pa6 := pa5.keep (σ' := σ6) fun q => kg6 _ _ _ q (by decide)
  have hG6 := pa6.lst
  clear h5 hR5 hL5 it5 kp5 hH5 hG5 pa5 kg6
  with_reducible refine WSs.cons ?_
  with_reducible refine WS.for rfl (by with_unfolding_all (first | exact fun _ _ => rfl | exact fun _ _ _ => rfl)) ?_
  with_reducible refine WE.localA (by kernel_rfl) (by kernel_rfl) (by walk_at "lk") ?_
  refine ⟨_, _, Iterable.list (ListAt.own hG6), ?_⟩
  refine WFor.byIdxO (fun j ρ' σ' => σ' = σ6 ∧ ρ' "_law_house" = some (.ref H) ∧ ρ' "_law_rows" = some (.ref B) ∧ ρ' "_law_held" = some (.ref Hd) ∧ ρ' "_law_found" = some (.ref G) ∧ ρ' (".0" : Str) = Option.none) ⟨rfl, q0, q1, q3, q6, q7⟩ ?_ ?_
  · rintro j v ρ' σ' hv ⟨rfl, r0, r1, r3, r6, r7⟩
    refine ⟨ListAt.own hG6, ?_⟩
    intro KL hKL
    rw [List.getElem?_map] at hv
    obtain ⟨u, hu, rfl⟩ := Option.map_eq_some_iff.mp hv
    obtain ⟨p, _, hpu⟩ := pa6.pth.get hu
    with_reducible refine WSt.localA (by kernel_rfl) ?_
    with_reducible refine WSs.cons ?_
    with_reducible refine WS.ite ?_
    with_reducible refine WT.not ?_
    with_reducible refine WT.plain (by with_unfolding_all (first | exact fun _ _ => rfl | exact fun _ _ _ => rfl)) ?_
    with_reducible refine WE.call rfl rfl ?_
    with_reducible refine WE.globalA (by kernel_rfl) g_isinstance ?_
    with_reducible refine And.intro (Callee.con rfl) ?_
    with_reducible refine WEs.cons rfl ?_
    with_reducible refine WE.localA (by kernel_rfl) (by kernel_rfl) (by walk_at "lk") ?_
    with_reducible refine WEs.cons rfl ?_
    with_reducible refine WE.globalA (by kernel_rfl) g_list ?_
    with_reducible refine WEs.nil ?_
    with_reducible refine WCall.isinstance (by first | with_reducible assumption | (with_reducible exact KindOf.int) | (with_reducible exact KindOf.str) | (with_reducible exact KindOf.bool) | (with_reducible exact KindOf.none) | ((with_reducible apply KindOf.list); walk_at "hp") | ((with_reducible apply KindOf.tuple); walk_at "hp")) k_list_list ?_
    with_reducible refine WTr.bool ?_
    with_reducible refine if_nt ?_
    with_reducible refine WSs.nil ?_
    with_reducible refine WSs.nil ?_
    exact hKL _ _ ⟨rfl, by walk_at "lk", by walk_at "lk", by walk_at "lk", by walk_at "lk", by ((repeat (first | assumption | (refine Lo.put_ne (by kernel_rfl) ?_))))⟩
  clear q0 q1 q3 q6 q7
  rintro ρ3 σ7 ⟨rfl, q0, q1, q3, q6, q7⟩
  refine ⟨ListAt.own hG6, ?_⟩
  have hHd7 := kp6 _ _ _ hHd (by decide)
  with_reducible refine WSs.cons ?_
  with_reducible refine WS.expr (by with_unfolding_all (first | exact fun _ _ => rfl | exact fun _ _ _ => rfl)) ?_
  with_reducible refine WE.method (by with_unfolding_all (first | exact fun _ _ => rfl | exact fun _ _ _ => rfl)) rfl rfl rfl ?_
  with_reducible refine WE.localA (by kernel_rfl) (by kernel_rfl) (by walk_at "lk") ?_
  refine WM.listAppend hHd7 ?_
  with_reducible refine And.intro (Callee.con rfl) ?_
  with_reducible refine WEs.cons rfl ?_
  refine WE.tuple 8 ?_
  with_reducible refine WEs.cons rfl ?_
  with_reducible refine WE.localA (by kernel_rfl) (by kernel_rfl) (by walk_at "lk") ?_
  with_reducible refine WEs.cons rfl ?_
  refine WE.compA 9 rfl (by with_unfolding_all (first | exact fun _ _ => rfl | exact fun _ _ _ => rfl)) (by kernel_rfl) (by ((repeat (first | assumption | (refine Lo.put_ne (by kernel_rfl) ?_))))) ?_
  with_reducible refine WE.localA (by kernel_rfl) (by kernel_rfl) (by walk_at "lk") ?_
  refine ⟨_, _, Iterable.list (ListAt.own hG6), by rw [List.length_map]; walk_at "om", ?_⟩
  refine WComp.inv (fun j acc σ' => Extd σ7 σ' ∧ ∃ us2 : List Nat, acc = us2.map MV.ref ∧ All2 (fun u (p : List Str) => σ' u = some (9, .list (p.map .str))) us2 (ps.take j)) _ 0 ⟨fun _ _ e => e, [], rfl, .nil⟩ ?_ ?_
  · rintro j v acc σ' hv ⟨e, us2, rfl, hu2⟩
    refine ⟨ListAt.own (e _ _ hG6), ?_⟩
    rw [List.getElem?_map] at hv
    obtain ⟨u, hu, rfl⟩ := Option.map_eq_some_iff.mp hv
    obtain ⟨p, hp, hpu⟩ := pa6.pth.get hu
    have hpu' := e _ _ hpu
    with_reducible refine WE.call rfl rfl ?_
    with_reducible refine WE.globalA (by kernel_rfl) g_list ?_
    with_reducible refine And.intro (Callee.con rfl) ?_
    with_reducible refine WEs.cons rfl ?_
    with_reducible refine WE.localA (by kernel_rfl) (by kernel_rfl) (by walk_at "lk") ?_
    with_reducible refine WEs.nil ?_
    refine WCall.listList 9 (ListAt.own hpu') (by rw [List.length_map]; exact hplen p (List.mem_of_getElem? hp)) fun b hb => ?_
    refine ⟨fun a q w => Hp.new hb.none (e _ _ w), us2 ++ [b], by simp, ?_⟩
    rw [Nat.zero_add] at hu2
    rw [Nat.zero_add, List.take_add_one, hp]
    exact (hu2.imp fun _ _ q => Hp.new hb.none q).append (.cons Hp.self .nil)
  rintro acc σ' ⟨e, us2, rfl, hu2⟩
  refine ⟨ListAt.own (e _ _ hG6), fun C hC => ?_⟩
  rw [Nat.zero_add, List.length_map, List.take_of_length_le (by walk_at "om")] at hu2
  have e8 : Extd σ7 (σ'.put C 9 (.list (us2.map .ref))) := fun a p q => Hp.new hC (e _ _ q)
  have pc8 : Paths (σ'.put C 9 (.list (us2.map .ref))) C us2 ps := ⟨Hp.self, hu2.imp fun _ _ q => Hp.new hC q⟩
  generalize σ'.put C 9 (.list (us2.map .ref)) = σ8 at e8 pc8 ⊢
  clear hC hu2 e
  have hHd8 := e8 _ _ hHd7
  with_reducible refine WEs.nil ?_
  refine ⟨by simp, fun Tu hTu => ?_⟩
  with_reducible refine WEs.nil ?_
  refine WCall.append (Hp.new hTu.none hHd8) (by walk_at "om") ?_
  have k9 : ∀ {a t o}, σ8 a = some (t, o) → t ≠ 5 → ((σ8.put Tu 8 (.tuple [.ref G, .ref C])).put Hd 5 (.list (vs ++ [.ref Tu]))) a = some (t, o) := fun q m => Hp.tag (Hp.new hTu.none hHd8) m (Hp.new hTu.none q)
  have hHd9 : ((σ8.put Tu 8 (.tuple [.ref G, .ref C])).put Hd 5 (.list (vs ++ [.ref Tu]))) Hd = some (5, .list (vs ++ [.ref Tu])) := Hp.self
  have hTu9 : ((σ8.put Tu 8 (.tuple [.ref G, .ref C])).put Hd 5 (.list (vs ++ [.ref Tu]))) Tu = some (8, .tuple [.ref G, .ref C]) := Hp.tag (Hp.new hTu.none hHd8) (by decide) Hp.self
  generalize (σ8.put Tu 8 (.tuple [.ref G, .ref C])).put Hd 5 (.list (vs ++ [.ref Tu])) = σ9 at k9 hHd9 hTu9 ⊢
  clear hTu
  have k79 : ∀ {a t o}, σ7 a = some (t, o) → t ≠ 5 → σ9 a = some (t, o) := fun q m => k9 (e8 _ _ q) m
  have h9 : HouseD σ9 H dw da tm ab := h6.keep (fun q => k79 q (by decide)) (fun q m => k79 q (by walk_at "om"))
  have hR9 := hR6.keep (σ' := σ9) (fun q => k79 q (by decide)) (fun q => k79 q (by decide))
  have pa9 := pa6.keep (σ' := σ9) fun q => k79 q (by decide)
  have pc9 := pc8.keep (σ' := σ9) fun q => k9 q (by decide)
  have kp9 : KpA σ σ9 := fun a t o q m1 m5 m100 => k79 (kp6 _ _ _ q (by walk_at "om")) m5
  have hld9 : ∀ v ∈ vs ++ [.ref Tu], Held σ9 v := fun v hv => by
    rcases List.mem_append.mp hv with q | q
    · exact (hld v q).keep (fun q => k79 (kp6 _ _ _ q (by decide)) (by decide)) (fun q => k79 (kp6 _ _ _ q (by decide)) (by decide))
    · exact ⟨Tu, G, us, C, us2, ps, List.mem_singleton.mp q, hTu9, pa9, pc9⟩
  have vl9 : (vs ++ [MV.ref Tu]).length ≤ vs.length + 1 := by rw [List.length_append]; exact Nat.le_refl _
  clear h6 hR6 kp6 pa6 hG6 hHd7 hHd8 e8 pc8 pc9 k9 k79 hTu9 hld
  generalize vs ++ [MV.ref Tu] = vs9 at hHd9 hld9 vl9
  have hG9 := pa9.lst
  with_reducible refine WSs.cons ?_
  with_reducible refine WS.for rfl (by with_unfolding_all (first | exact fun _ _ => rfl | exact fun _ _ _ => rfl)) ?_
  refine WE.sliceTo 9 ?_
  with_reducible refine WE.localA (by kernel_rfl) (by kernel_rfl) (by walk_at "lk") ?_
  with_reducible refine WE.int ?_
  refine ⟨G, _, 60, rfl, rfl, ListAt.own hG9, by rw [List.length_map]; walk_at "om", fun S hS => ?_⟩
  rw [← List.map_take]
  refine ⟨_, _, Iterable.list (ListAt.own Hp.self), ?_⟩
  refine WFor.byIdxO (fun j ρ' σ' => (∃ tmj tm1j, HouseD σ' H dw da tmj ab ∧ Rel4 tmj ab R ∧ Bd N tmj ab ∧ tmj.map coreT = tm1j.map coreT ∧ Ndp tm1j ∧ Deals tm1j (ps.drop j) tm2) ∧ Rows4 σ' B R ts ∧ σ' S = some (9, .list ((us.take 60).map .ref)) ∧ Paths σ' G us ps ∧ σ' Hd = some (5, .list vs9) ∧ (∀ v ∈ vs9, Held σ' v) ∧ KpA σ σ' ∧ ρ' "_law_house" = some (.ref H)) ?_ ?_ ?_
  · exact ⟨⟨tm, tm1, h9.ext fun a p q => Hp.new hS.none q, rel, bd, hc.symm, nd, dl⟩, hR9.ext fun a p q => Hp.new hS.none q, Hp.self, pa9.keep fun q => Hp.new hS.none q, Hp.new hS.none hHd9, fun v hv => (hld9 v hv).keep (fun q => Hp.new hS.none q) (fun q => Hp.new hS.none q), fun a t o q m1 m5 m100 => Hp.new hS.none (kp9 _ _ _ q m1 m5 m100), by walk_at "lk"⟩
  · clear h9 hR9 pa9 hG9 hHd9 hld9 kp9 hS rel bd ll tlN alN h hR hc nd dl
    rintro j v ρ' σ' hv ⟨⟨tmj, tm1j, hj, relj, bdj, hcj, ndj, dlj⟩, hRj, hSj, paj, hHdj, hldj, kpj, r0⟩
    refine ⟨ListAt.own hSj, ?_⟩
    intro KL hKL
    rw [List.getElem?_map] at hv
    obtain ⟨u, hu, rfl⟩ := Option.map_eq_some_iff.mp hv
    have hj60 : j < 60 := by
      have := (List.getElem?_eq_some_iff.mp hu).1
      rw [List.length_take] at this; walk_at "om"
    rw [List.getElem?_take, if_pos hj60] at hu
    obtain ⟨p, hp, hpu⟩ := paj.pth.get hu
    have hpl := (List.getElem?_eq_some_iff.mp hp).1
    have hdr : ps.drop j = p :: ps.drop (j + 1) := by
      rw [List.drop_eq_getElem_cons hpl]
      rw [List.getElem?_eq_getElem hpl] at hp
      rw [Option.some.inj hp]
    rw [hdr] at dlj
    have hHj := hj.hou
    with_reducible refine WSt.localA (by kernel_rfl) ?_
    with_reducible refine WSs.cons ?_
    with_reducible refine WS.ite ?_
    with_reducible refine WT.cmp1 rfl ?_
    with_reducible refine WE.method (by with_unfolding_all (first | exact fun _ _ => rfl | exact fun _ _ _ => rfl)) rfl rfl rfl ?_
    with_reducible refine WE.localA (by kernel_rfl) (by kernel_rfl) (by walk_at "lk") ?_
    with_reducible refine WM.inst (by walk_at "hp") ms_House_deal (by kernel_rfl) ?_
    with_reducible refine And.intro (Callee.meth ms_House_deal) ?_
    with_reducible refine WEs.nil ?_
    refine WCall.of_fn (ldeal_c hj relj bdj hN fun D p' tm' σ2 h2 rel2 bd2 hD st k2 => ?_)
    cases dlj with
    | @cons _ _ tm1' _ _ st1 dl1 =>
    obtain ⟨pe, ce⟩ := step_det st1 hcj ndj hj.ndp st
    subst pe
    have hpu2 := k2 _ _ _ hpu (by decide) (by decide)
    with_reducible refine WE.localA (by kernel_rfl) (by kernel_rfl) (by walk_at "lk") ?_
    refine WC.ne (Nat.succ_le_succ (Nat.zero_le _)) (by decide) (RnV.listT (k := 0) (ListAt.own hD) (ListAt.own hpu2) (strs_self _)) ?_
    with_reducible refine WTr.bool ?_
    with_reducible refine if_ff ?_
    with_reducible refine WSs.nil ?_
    with_reducible refine WSs.nil ?_
    exact hKL _ _ ⟨⟨tm', tm1', h2, rel2, bd2, ce, step_ndp st1 ndj, dl1⟩, hRj.keep (fun q => k2 _ _ _ q (by decide) (by decide)) (fun q => k2 _ _ _ q (by decide) (by decide)), k2 _ _ _ hSj (by decide) (by decide), paj.keep fun q => k2 _ _ _ q (by decide) (by decide), k2 _ _ _ hHdj (by decide) (by decide), fun v hv => (hldj v hv).keep (fun q => k2 _ _ _ q (by decide) (by decide)) (fun q => k2 _ _ _ q (by decide) (by decide)), fun a t o q m1 m5 m100 => k2 _ _ _ (kpj _ _ _ q m1 m5 m100) m1 m100, by walk_at "lk"⟩
  · rintro ρ' σ' ⟨⟨tmj, tm1j, hj, relj, bdj, hcj, ndj, dlj⟩, hRj, hSj, paj, hHdj, hldj, kpj, r0⟩
    refine ⟨ListAt.own hSj, ?_⟩
    with_reducible refine WSs.cons ?_
    with_reducible refine WS.ret ?_
    with_reducible refine WE.bool ?_
    exact hq tmj vs9 σ' hj relj bdj hRj hHdj vl9 hldj kpj
def lawPost : MF → Lo → Hp → Prop := fun m _ _ => m = .ret (.bool true)
theorem cell_c {a : Nat} {ns : List Int} {k : Int} (hl : ListAt σ a (ns.map .int)) (hz : ns.length ≤ 63) (h0 : 0 ≤ k) (hk : k < 2 ^ 63) (hq : Q (.int (ns.getD k.toNat 0)) σ) : WFn (cx w mean mg mb) ⟨n + 1, true, sc⟩ a_law_cell_at [.ref a, .int k] ρ Q X σ := by
  refine WFn.fn2 (p1 := "_law_script") (p2 := "_law_k") ⟨⟨_, _, _, _, _, _, _, _, _, _, _, _, _, (rfl : (Mine.hd.heap_39 w.params).lookup a_law_cell_at = _), by kernel_rfl, us2 fun _ _ => rfl⟩, by kernel_rfl⟩ ?_
  with_reducible refine WSs.cons ?_
  with_reducible refine WS.ite ?_
  with_reducible refine WT.cmp1 rfl ?_
  with_reducible refine WE.localA (by kernel_rfl) (by kernel_rfl) (by walk_at "lk") ?_
  with_reducible refine WE.call rfl rfl ?_
  with_reducible refine WE.globalA (by kernel_rfl) g_len ?_
  with_reducible refine And.intro (Callee.con rfl) ?_
  with_reducible refine WEs.cons rfl ?_
  with_reducible refine WE.localA (by kernel_rfl) (by kernel_rfl) (by walk_at "lk") ?_
  with_reducible refine WEs.nil ?_
  refine WCall.lenList hl (mapLe (Nat.le_trans hz (by decide))) ?_
  by_cases hlt : k < ((ns.map MV.int).length : Int)
  · have hl' : k.toNat < ns.length := by simp at hlt; walk_at "om"
    have hx : (ns.map MV.int)[k.toNat]? = some (.int (ns.getD k.toNat 0)) := by
      simp [List.getElem?_eq_getElem hl', List.getD]
    with_reducible refine WC.lt ?_
    with_reducible refine WTr.bool ?_
    with_reducible refine if_dt (by with_reducible assumption) ?_
    with_reducible refine WSs.cons ?_
    with_reducible refine WS.ret ?_
    with_reducible refine WE.sub ?_
    with_reducible refine WE.localA (by kernel_rfl) (by kernel_rfl) (by walk_at "lk") ?_
    with_reducible refine WE.localA (by kernel_rfl) (by kernel_rfl) (by walk_at "lk") ?_
    with_reducible refine WSub.list (by with_unfolding_all (first | exact fun _ _ => rfl | exact fun _ _ _ => rfl)) (by first | with_reducible assumption | ((with_reducible apply ListAt.own); walk_at "hp") | ((with_reducible apply ListAt.k); walk_at "hp")) (by walk_at "ar") (by walk_at "ar") (by with_reducible assumption) ?_
    exact hq
  · skip
    with_reducible refine WC.lt ?_
    with_reducible refine WTr.bool ?_
    with_reducible refine if_df (by with_reducible assumption) ?_
    with_reducible refine WSs.nil ?_
    with_reducible refine WSs.cons ?_
    with_reducible refine WS.ret ?_
    with_reducible refine WE.int ?_
    have hl' : ns.length ≤ k.toNat := by simp at hlt; walk_at "om"
    have : ns.getD k.toNat 0 = 0 := by simp [List.getD, List.getElem?_eq_none hl']
    rw [this] at hq
    exact hq
theorem held_eqF {i : Ix} {ρ : Lo} {x : Str} {t elt : Expr} {Hd : Nat} {vs : List MV} {σ : Hp} (hH : σ Hd = some (5, .list vs)) (hp : ∀ v ∈ vs, Held σ v) {Qc : List MV → Hp → Prop}
    (h : ∀ (u L L2 : Nat) (us us2 : List Nat) (ps : List (List Str)), σ u = some (8, .tuple [.ref L, .ref L2]) → Paths σ L us ps → Paths σ L2 us2 ps → ∀ K : Bool → Hp → Prop, K false σ → WT (cx w mean mg mb) i t (ρ.put x (.ref u)) K noX σ)
    (hq : Qc [] σ) : WComp (cx w mean mg mb) i x elt [t] (fun σ => ListAt σ Hd vs) Qc ρ vs [] σ := by
  have ef : (vs.filter fun _ => false) = [] := List.filter_eq_nil_iff.mpr fun _ _ => by decide
  refine WComp.filter (ListAt.own hH) (p := fun _ => false) (f := id) (fun v hv K hK => ?_) (fun v hv hp K hK => nomatch hp) (by rw [ef]; exact hq)
  obtain ⟨u, L, us, L2, us2, ps, rfl, h1, h2, h3⟩ := hp v hv
  exact h u L L2 us us2 ps h1 h2 h3 K hK
/-- what a round keeps -/
structure Rd (s : Int) (σ : Hp) (H dw da B Hd : Nat) (ts : List Nat) (m N : Nat) (tm : List Team) (ab : List (Str × Str)) (R : List Row4) (vs : List MV) : Prop where
  h : HouseD σ H dw da tm ab
  rel : Rel4 tm ab R
  rows : Rows4 σ B R ts
  ok : ROk4 s R
  rl : R.length = m
  bd : Bd N tm ab
  hd : σ Hd = some (5, .list vs)
  held : ∀ v ∈ vs, Held σ v
theorem Rd.ext {s : Int} {σ σ' : Hp} {H dw da B Hd : Nat} {ts : List Nat} {m N : Nat} {tm : List Team} {ab : List (Str × Str)} {R : List Row4} {vs : List MV} (d : Rd s σ H dw da B Hd ts m N tm ab R vs) (e : Extd σ σ') : Rd s σ' H dw da B Hd ts m N tm ab R vs :=
  ⟨d.h.ext e, d.rel, d.rows.ext e, d.ok, d.rl, d.bd, e _ _ d.hd, fun v hv => (d.held v hv).keep (fun q => e _ _ q) (fun q => e _ _ q)⟩
theorem odd_v {σ : Hp} {A t : Nat} (hA : σ A = some (t, .list [.int 3])) {m : Int} (m0 : 0 ≤ m) (m9 : m < 9) : ∃ v, [MV.int (-1), .int 1000, .none, .bool true, .str "3", .bool false, .ref A, .int ((10 : Int) ^ (Int.toNat 20)), .int (-((10 : Int) ^ (Int.toNat 9)))][m.toNat]? = some v ∧ NoCount w mean mg mb σ v := by
  obtain ⟨k, rfl⟩ := Int.eq_ofNat_of_zero_le m0
  have hk : k = 0 ∨ k = 1 ∨ k = 2 ∨ k = 3 ∨ k = 4 ∨ k = 5 ∨ k = 6 ∨ k = 7 ∨ k = 8 := by walk_at "om"
  rcases hk with rfl | rfl | rfl | rfl | rfl | rfl | rfl | rfl | rfl
  · exact ⟨_, rfl, NoCount.int (by decide)⟩
  · exact ⟨_, rfl, NoCount.int (by decide)⟩
  · exact ⟨_, rfl, NoCount.none⟩
  · exact ⟨_, rfl, NoCount.bool⟩
  · exact ⟨_, rfl, NoCount.str⟩
  · exact ⟨_, rfl, NoCount.bool⟩
  · exact ⟨_, rfl, NoCount.list hA⟩
  · exact ⟨_, rfl, NoCount.int (by decide)⟩
  · exact ⟨_, rfl, NoCount.int (by decide)⟩
theorem law_A0 : ∃ body scope, FnAt (cx w mean mg mb) a_law ["_law_script"] body scope ∧ ∀ (l0 : Nat) (ns : List Int) (ol : Obj), ns.length ≤ 63 →
    WSs (cx w mean mg mb) ⟨200, true, scope⟩ body (bindLo ["_law_script"] [.ref l0] fun _ => Option.none) lawPost noSX (lawHp l0 ns ol) := by
  refine ⟨_, _, ⟨⟨_, _, _, _, _, _, _, _, _, _, _, _, _, (rfl : (Mine.hd.heap_39 w.params).lookup a_law = _), by kernel_rfl, us1 fun _ => rfl⟩, by kernel_rfl⟩, ?_⟩
  intro l0 ns ol hz
  change WSs _ _ _ (ρ0.put "_law_script" (.ref l0)) _ _ _
  have hs : (lawHp l0 ns ol) l0 = some (0, .klist (ns.map .int) ol) := if_pos rfl
  generalize lawHp l0 ns ol = σ at hs ⊢
  with_reducible refine WSs.cons ?_
  with_reducible refine WS.assign (by with_unfolding_all (first | exact fun _ _ => rfl | exact fun _ _ _ => rfl)) ?_
  with_reducible refine WE.call rfl rfl ?_
  with_reducible refine WE.globalA (by kernel_rfl) g_law_rows_by ?_
  with_reducible refine And.intro (Callee.fn fn_law_rows_by) ?_
  with_reducible refine WEs.cons rfl ?_
  with_reducible refine WE.call rfl rfl ?_
  with_reducible refine WE.globalA (by kernel_rfl) g_law_cell_at ?_
  with_reducible refine And.intro (Callee.fn fn_law_cell_at) ?_
  with_reducible refine WEs.cons rfl ?_
  with_reducible refine WE.localA (by kernel_rfl) (by kernel_rfl) (by walk_at "lk") ?_
  with_reducible refine WEs.cons rfl ?_
  with_reducible refine WE.int ?_
  with_reducible refine WEs.nil ?_
  refine WCall.of_fn (cell_c (ListAt.k hs) hz (by decide) (by decide) ?_)
  generalize ns.getD (Int.toNat 0) 0 = f
  with_reducible refine WEs.cons rfl ?_
  with_reducible refine WE.call rfl rfl ?_
  with_reducible refine WE.globalA (by kernel_rfl) g_law_cell_at ?_
  with_reducible refine And.intro (Callee.fn fn_law_cell_at) ?_
  with_reducible refine WEs.cons rfl ?_
  with_reducible refine WE.localA (by kernel_rfl) (by kernel_rfl) (by walk_at "lk") ?_
  with_reducible refine WEs.cons rfl ?_
  with_reducible refine WE.int ?_
  with_reducible refine WEs.nil ?_
  refine WCall.of_fn (cell_c (ListAt.k hs) hz (by decide) (by decide) ?_)
  generalize ns.getD (Int.toNat 1) 0 = s
  with_reducible refine WEs.cons rfl ?_
  with_reducible refine WE.cmp1 rfl ?_
  with_reducible refine WE.binop ?_
  with_reducible refine WE.call rfl rfl ?_
  with_reducible refine WE.globalA (by kernel_rfl) g_law_cell_at ?_
  with_reducible refine And.intro (Callee.fn fn_law_cell_at) ?_
  with_reducible refine WEs.cons rfl ?_
  with_reducible refine WE.localA (by kernel_rfl) (by kernel_rfl) (by walk_at "lk") ?_
  with_reducible refine WEs.cons rfl ?_
  with_reducible refine WE.int ?_
  with_reducible refine WEs.nil ?_
  refine WCall.of_fn (cell_c (ListAt.k hs) hz (by decide) (by decide) ?_)
  generalize ns.getD (Int.toNat 2) 0 = third
  with_reducible refine WE.int ?_
  with_reducible refine WB.mod (by walk_at "ar") ?_
  with_reducible refine WE.int ?_
  with_reducible refine WC.eqI ?_
  with_reducible refine WEs.nil ?_
  refine WCall.of_fn (rows_by_c fun B R0 ts σ1 hR ok nw rl1 rl e1 => ?_)
  have hs1 := e1 _ _ hs
  clear hs e1
  with_reducible refine WSt.localA (by kernel_rfl) ?_
  with_reducible refine WSs.cons ?_
  with_reducible refine WS.assign (by with_unfolding_all (first | exact fun _ _ => rfl | exact fun _ _ _ => rfl)) ?_
  with_reducible refine WE.call rfl rfl ?_
  with_reducible refine WE.globalA (by kernel_rfl) g_law_house_by ?_
  with_reducible refine And.intro (Callee.fn fn_law_house_by) ?_
  with_reducible refine WEs.cons rfl ?_
  with_reducible refine WE.localA (by kernel_rfl) (by kernel_rfl) (by walk_at "lk") ?_
  with_reducible refine WEs.cons rfl ?_
  with_reducible refine WE.binop ?_
  with_reducible refine WE.call rfl rfl ?_
  with_reducible refine WE.globalA (by kernel_rfl) g_law_cell_at ?_
  with_reducible refine And.intro (Callee.fn fn_law_cell_at) ?_
  with_reducible refine WEs.cons rfl ?_
  with_reducible refine WE.localA (by kernel_rfl) (by kernel_rfl) (by walk_at "lk") ?_
  with_reducible refine WEs.cons rfl ?_
  with_reducible refine WE.int ?_
  with_reducible refine WEs.nil ?_
  refine WCall.of_fn (cell_c (ListAt.k hs1) hz (by decide) (by decide) ?_)
  generalize ns.getD (Int.toNat 2) 0 = third2
  with_reducible refine WE.int ?_
  with_reducible refine WB.div (by walk_at "ar") (by walk_at "ar") ?_
  with_reducible refine WEs.nil ?_
  refine WCall.of_fn (house_by_c hR ok nw rl fun H dw da tm0 ab0 σ2 h2 rel2 bd2 k2 => ?_)
  have hs2 := k2 _ _ _ hs1 (by decide) (by decide)
  have hR2 := hR.keep (σ' := σ2) (fun q => k2 _ _ _ q (by decide) (by decide)) (fun q => k2 _ _ _ q (by decide) (by decide))
  have tl := hR2.len
  clear hR hs1 k2
  with_reducible refine WSt.localA (by kernel_rfl) ?_
  with_reducible refine WSs.cons ?_
  with_reducible refine WS.assign (by with_unfolding_all (first | exact fun _ _ => rfl | exact fun _ _ _ => rfl)) ?_
  refine WE.list 5 ?_
  with_reducible refine WEs.nil ?_
  refine ⟨by simp, fun Hd hHd => ?_⟩
  have e3 : Extd σ2 (σ2.put Hd 5 (.list [])) := fun a p q => Hp.new hHd.none q
  have hd3 : (σ2.put Hd 5 (.list [])) Hd = some (5, .list []) := Hp.self
  generalize σ2.put Hd 5 (.list []) = σ3 at e3 hd3 ⊢
  have hs3 := e3 _ _ hs2
  have d3 : Rd s σ3 H dw da B Hd ts R0.length 26 tm0 ab0 R0 [] := ⟨h2.ext e3, rel2, hR2.ext e3, ok, rfl, bd2, hd3, fun v hv => nomatch hv⟩
  clear h2 rel2 bd2 hR2 hs2 e3 hHd hd3
  with_reducible refine WSt.localA (by kernel_rfl) ?_
  with_reducible refine WSs.cons ?_
  with_reducible refine WS.for rfl (by with_unfolding_all (first | exact fun _ _ => rfl | exact fun _ _ _ => rfl)) ?_
  with_reducible refine WE.call rfl rfl ?_
  with_reducible refine WE.globalA (by kernel_rfl) g_range ?_
  with_reducible refine And.intro (Callee.con rfl) ?_
  with_reducible refine WEs.cons rfl ?_
  with_reducible refine WE.binop ?_
  with_reducible refine WE.call rfl rfl ?_
  with_reducible refine WE.globalA (by kernel_rfl) g_law_cell_at ?_
  with_reducible refine And.intro (Callee.fn fn_law_cell_at) ?_
  with_reducible refine WEs.cons rfl ?_
  with_reducible refine WE.localA (by kernel_rfl) (by kernel_rfl) (by walk_at "lk") ?_
  with_reducible refine WEs.cons rfl ?_
  with_reducible refine WE.int ?_
  with_reducible refine WEs.nil ?_
  refine WCall.of_fn (cell_c (ListAt.k hs3) hz (by decide) (by decide) ?_)
  generalize ns.getD (Int.toNat 3) 0 = fourth
  have f0 := fmod_ge fourth (show (1 : Int) ≤ 21 by decide)
  have f1 := fmod_lt fourth (show (1 : Int) ≤ 21 by decide)
  with_reducible refine WE.int ?_
  with_reducible refine WB.mod (by walk_at "ar") ?_
  with_reducible refine WEs.nil ?_
  refine WCall.range1 9 fun b hb => ?_
  refine ⟨_, _, itR Hp.self (by walk_at "om") (by walk_at "om"), ?_⟩
  refine WFor.upToO (fun j ρ' σ' => (∃ tm, Rd s σ' H dw da B Hd ts R0.length 26 tm ab0 R0 []) ∧ σ' l0 = some (0, .klist (ns.map .int) ol) ∧ ρ' "_law_script" = some (.ref l0) ∧ ρ' "_law_rows" = some (.ref B) ∧ ρ' "_law_house" = some (.ref H) ∧ ρ' "_law_held" = some (.ref Hd) ∧ ρ' (".0" : Str) = Option.none) ?_ ?_ ?_
  · exact ⟨⟨tm0, d3.ext fun a p q => Hp.new hb.none q⟩, Hp.new hb.none hs3, by walk_at "lk", by walk_at "lk", by walk_at "lk", by walk_at "lk", by ((repeat (first | assumption | (refine Lo.put_ne (by kernel_rfl) ?_))); rfl)⟩
  · clear d3 hs3 hb
    rintro j ρ' σ' hj ⟨⟨tm, d⟩, hs, r0, r1, r2, r3, r4⟩
    intro KL hKL
    have hH := d.h.hou
    with_reducible refine WSt.localA (by kernel_rfl) ?_
    with_reducible refine WSs.cons ?_
    with_reducible refine WS.expr (by with_unfolding_all (first | exact fun _ _ => rfl | exact fun _ _ _ => rfl)) ?_
    with_reducible refine WE.method (by with_unfolding_all (first | exact fun _ _ => rfl | exact fun _ _ _ => rfl)) rfl rfl rfl ?_
    with_reducible refine WE.localA (by kernel_rfl) (by kernel_rfl) (by walk_at "lk") ?_
    with_reducible refine WM.inst (by walk_at "hp") ms_House_deal (by kernel_rfl) ?_
    with_reducible refine And.intro (Callee.meth ms_House_deal) ?_
    with_reducible refine WEs.nil ?_
    refine WCall.of_fn (ldeal_c d.h d.rel d.bd (by decide) fun D p tm' σ2 h2 rel2 bd2 _ _ k2 => ?_)
    with_reducible refine WSs.nil ?_
    exact hKL _ _ ⟨⟨tm', ⟨h2, rel2, d.rows.keep (fun q => k2 _ _ _ q (by decide) (by decide)) (fun q => k2 _ _ _ q (by decide) (by decide)), d.ok, d.rl, bd2, k2 _ _ _ d.hd (by decide) (by decide), fun v hv => nomatch hv⟩⟩, k2 _ _ _ hs (by decide) (by decide), by walk_at "lk", by walk_at "lk", by walk_at "lk", by walk_at "lk", by ((repeat (first | assumption | (refine Lo.put_ne (by kernel_rfl) ?_))))⟩
  clear d3 hs3 hb ok nw
  rintro ρ' σ' ⟨⟨tm, d⟩, hs, r0, r1, r2, r3, r4⟩
  with_reducible refine WSs.cons ?_
  with_reducible refine WS.for rfl (by with_unfolding_all (first | exact fun _ _ => rfl | exact fun _ _ _ => rfl)) ?_
  with_reducible refine WE.binop ?_
  refine WE.sliceBoth 9 ?_
  with_reducible refine WE.localA (by kernel_rfl) (by kernel_rfl) (by walk_at "lk") ?_
  with_reducible refine WE.int ?_
  with_reducible refine WE.int ?_
  refine ⟨l0, _, 4, 14, rfl, rfl, rfl, by decide, ListAt.k hs, mapLe (Nat.le_trans hz (by decide)), fun B1 hB1 => ?_⟩
  skip
  refine WE.list 9 ?_
  with_reducible refine WEs.cons rfl ?_
  with_reducible refine WE.int ?_
  with_reducible refine WEs.nil ?_
  refine ⟨by simp, fun B2 hB2 => ?_⟩
  have l10 : (((ns.map MV.int).take 14).drop 4).length ≤ 63 := by
    rw [List.length_drop, List.length_take, List.length_map]; walk_at "om"
  have l11 : (((ns.map MV.int).take 14).drop 4 ++ [MV.int 10]).length ≤ 64 := by
    rw [List.length_append]; simp only [List.length_cons, List.length_nil]; walk_at "om"
  refine WB.addL 10 (ListAt.own (Hp.new hB2.none Hp.self)) (ListAt.own Hp.self) (by simp only [List.length_cons, List.length_nil]; walk_at "om") fun C hC => ?_
  refine ⟨_, _, Iterable.list (ListAt.own Hp.self), ?_⟩
  have e6 : Extd σ' (((σ'.put B1 9 (.list (((ns.map MV.int).take 14).drop 4))).put B2 9 (.list [.int 10])).put C 10 (.list (((ns.map MV.int).take 14).drop 4 ++ [.int 10]))) := fun a p q => Hp.new hC.none (Hp.new hB2.none (Hp.new hB1.none q))
  have hC6 : (((σ'.put B1 9 (.list (((ns.map MV.int).take 14).drop 4))).put B2 9 (.list [.int 10])).put C 10 (.list (((ns.map MV.int).take 14).drop 4 ++ [.int 10]))) C = some (10, .list (((ns.map MV.int).take 14).drop 4 ++ [.int 10])) := Hp.self
  generalize ((σ'.put B1 9 (.list (((ns.map MV.int).take 14).drop 4))).put B2 9 (.list [.int 10])).put C 10 (.list (((ns.map MV.int).take 14).drop 4 ++ [.int 10])) = σ6 at e6 hC6 ⊢
  have cells : ∀ (i : Nat) v, (((ns.map MV.int).take 14).drop 4 ++ [.int 10])[i]? = some v → ∃ c : Int, v = .int c := fun i v hv => by
    rcases List.mem_append.mp (List.mem_of_getElem? hv) with q | q
    · obtain ⟨c, _, e⟩ := List.mem_map.mp (List.mem_of_mem_take (List.mem_of_mem_drop q))
      exact ⟨c, e.symm⟩
    · exact ⟨10, List.mem_singleton.mp q⟩
  generalize ((ns.map MV.int).take 14).drop 4 ++ [.int 10] = items at hC6 cells l11 ⊢
  have d6 := d.ext e6
  clear d hs e6 hB1 hB2 hC l10
  refine WFor.byIdxO (fun i ρ' σ' => (∃ tm ab R vs, Rd s σ' H dw da B Hd ts R0.length (26 + i) tm ab R vs ∧ vs.length ≤ i) ∧ σ' C = some (10, .list items) ∧ ρ' "_law_rows" = some (.ref B) ∧ ρ' "_law_house" = some (.ref H) ∧ ρ' "_law_held" = some (.ref Hd) ∧ ρ' (".0" : Str) = Option.none) ?_ ?_ ?_
  · exact ⟨⟨tm, ab0, R0, [], d6, Nat.zero_le _⟩, hC6, by walk_at "lk", by walk_at "lk", by walk_at "lk", by ((repeat (first | assumption | (refine Lo.put_ne (by kernel_rfl) ?_))))⟩
  · clear d6 hC6 r0 r1 r2 r3 r4
    clear ρ' σ'
    rintro i v ρ' σ' hv ⟨⟨tm, ab, R, vs, d, vl⟩, hC, r1, r2, r3, r4⟩
    obtain ⟨cell, rfl⟩ := cells i v hv
    have il : i < 64 := Nat.lt_of_lt_of_le (List.getElem?_eq_some_iff.mp hv).1 l11
    refine ⟨ListAt.own hC, ?_⟩
    intro KL hKL
    have tl := d.rows.len
    have rl' := d.rl
    have el : ((ts.map MV.ref).length : Int) = (R.length : Int) := by rw [List.length_map, tl]
    have rn1 : (1 : Int) ≤ (R.length : Int) := by walk_at "om"
    have rn0 : (R.length : Int) ≠ 0 := by walk_at "om"
    have rnb : (R.length : Int).natAbs < 1073741824 := by walk_at "om"
    have i0 := fmod_ge (cell.fdiv 5) rn1
    have i1 := fmod_lt (cell.fdiv 5) rn1
    have i2 : (cell.fdiv 5).fmod (R.length : Int) < 2 ^ 63 := by walk_at "om"
    obtain ⟨k, hk⟩ := Int.eq_ofNat_of_zero_le i0
    have hkl : k < R.length := by walk_at "om"
    have hr : R[k]? = some R[k] := List.getElem?_eq_getElem hkl
    generalize R[k] = r at hr
    obtain ⟨u, hu, hru⟩ := d.rows.at hr
    have hB := d.rows.lst
    have hx1 : (ts.map MV.ref)[((cell.fdiv 5).fmod (R.length : Int)).toNat]? = some (.ref u) := by rw [hk, Int.toNat_natCast, List.getElem?_map, hu]; rfl
    with_reducible refine WSt.localA (by kernel_rfl) ?_
    with_reducible refine WSs.cons ?_
    with_reducible refine WS.assign (by with_unfolding_all (first | exact fun _ _ => rfl | exact fun _ _ _ => rfl)) ?_
    with_reducible refine WE.binop ?_
    with_reducible refine WE.binop ?_
    with_reducible refine WE.localA (by kernel_rfl) (by kernel_rfl) (by walk_at "lk") ?_
    with_reducible refine WE.int ?_
    with_reducible refine WB.div (by walk_at "ar") (by walk_at "ar") ?_
    with_reducible refine WE.call rfl rfl ?_
    with_reducible refine WE.globalA (by kernel_rfl) g_len ?_
    with_reducible refine And.intro (Callee.con rfl) ?_
    with_reducible refine WEs.cons rfl ?_
    with_reducible refine WE.localA (by kernel_rfl) (by kernel_rfl) (by walk_at "lk") ?_
    with_reducible refine WEs.nil ?_
    refine WCall.lenList (ListAt.own hB) (by rw [List.length_map]; walk_at "om") ?_
    rw [el]
    with_reducible refine WB.div (by walk_at "ar") (by walk_at "ar") ?_
    with_reducible refine WSt.localA (by kernel_rfl) ?_
    with_reducible refine WSs.cons ?_
    with_reducible refine WS.expr (by with_unfolding_all (first | exact fun _ _ => rfl | exact fun _ _ _ => rfl)) ?_
    with_reducible refine WE.call rfl rfl ?_
    with_reducible refine WE.globalA (by kernel_rfl) g_law_stirred ?_
    with_reducible refine And.intro (Callee.fn fn_law_stirred) ?_
    with_reducible refine WEs.cons rfl ?_
    with_reducible refine WE.localA (by kernel_rfl) (by kernel_rfl) (by walk_at "lk") ?_
    with_reducible refine WEs.cons rfl ?_
    with_reducible refine WE.localA (by kernel_rfl) (by kernel_rfl) (by walk_at "lk") ?_
    with_reducible refine WEs.cons rfl ?_
    with_reducible refine WE.sub ?_
    with_reducible refine WE.localA (by kernel_rfl) (by kernel_rfl) (by walk_at "lk") ?_
    with_reducible refine WE.binop ?_
    with_reducible refine WE.binop ?_
    with_reducible refine WE.localA (by kernel_rfl) (by kernel_rfl) (by walk_at "lk") ?_
    with_reducible refine WE.int ?_
    with_reducible refine WB.div (by walk_at "ar") (by walk_at "ar") ?_
    with_reducible refine WE.call rfl rfl ?_
    with_reducible refine WE.globalA (by kernel_rfl) g_len ?_
    with_reducible refine And.intro (Callee.con rfl) ?_
    with_reducible refine WEs.cons rfl ?_
    with_reducible refine WE.localA (by kernel_rfl) (by kernel_rfl) (by walk_at "lk") ?_
    with_reducible refine WEs.nil ?_
    refine WCall.lenList (ListAt.own hB) (by rw [List.length_map]; walk_at "om") ?_
    rw [el]
    with_reducible refine WB.mod (by walk_at "ar") ?_
    with_reducible refine WSub.list (by with_unfolding_all (first | exact fun _ _ => rfl | exact fun _ _ _ => rfl)) (by first | with_reducible assumption | ((with_reducible apply ListAt.own); walk_at "hp") | ((with_reducible apply ListAt.k); walk_at "hp")) (by walk_at "ar") (by walk_at "ar") (by with_reducible assumption) ?_
    with_reducible refine WEs.cons rfl ?_
    with_reducible refine WE.binop ?_
    with_reducible refine WE.localA (by kernel_rfl) (by kernel_rfl) (by walk_at "lk") ?_
    with_reducible refine WE.int ?_
    with_reducible refine WB.mod (by walk_at "ar") ?_
    with_reducible refine WEs.cons rfl ?_
    with_reducible refine WE.binop ?_
    with_reducible refine WE.int ?_
    with_reducible refine WE.binop ?_
    with_reducible refine WE.localA (by kernel_rfl) (by kernel_rfl) (by walk_at "lk") ?_
    with_reducible refine WE.int ?_
    with_reducible refine WB.mod (by walk_at "ar") ?_
    with_reducible refine WB.add ?_
    with_reducible refine WEs.nil ?_
    generalize (cell.fdiv 5).fdiv (R.length : Int) = count
    refine WCall.of_fn (stirred_c d.h d.rel d.rows d.ok (by walk_at "om") d.bd (by walk_at "om") hr hu (sh_lo _) (sh_hi _) fun tm2 ab2 R2 σ2 h2 rel2 hR2 ok2 rl2 bd2 k2 => ?_)
    have d2 : Rd s σ2 H dw da B Hd ts R0.length (26 + (i + 1)) tm2 ab2 R2 vs := ⟨h2, rel2, hR2, ok2, by rw [rl2]; exact d.rl, bd2, k2 _ _ _ d.hd (by decide) (by decide) (by decide), fun v hv => (d.held v hv).keep (fun q => k2 _ _ _ q (by decide) (by decide) (by decide)) (fun q => k2 _ _ _ q (by decide) (by decide) (by decide))⟩
    have hC2 := k2 _ _ _ hC (by decide) (by decide) (by decide)
    clear d hB hru hx1 h2 rel2 hR2 ok2 bd2 k2 hC hr hu
    with_reducible refine WSs.cons ?_
    with_reducible refine WS.assign (by with_unfolding_all (first | exact fun _ _ => rfl | exact fun _ _ _ => rfl)) ?_
    with_reducible refine WE.sub ?_
    refine WE.list 9 ?_
    with_reducible refine WEs.cons rfl ?_
    with_reducible refine WE.unary ?_
    with_reducible refine WE.int ?_
    with_reducible refine WU.neg ?_
    with_reducible refine WEs.cons rfl ?_
    with_reducible refine WE.int ?_
    with_reducible refine WEs.cons rfl ?_
    with_reducible refine WE.none ?_
    with_reducible refine WEs.cons rfl ?_
    with_reducible refine WE.bool ?_
    with_reducible refine WEs.cons rfl ?_
    with_reducible refine WE.str ?_
    with_reducible refine WEs.cons rfl ?_
    with_reducible refine WE.bool ?_
    with_reducible refine WEs.cons rfl ?_
    refine WE.list 9 ?_
    with_reducible refine WEs.cons rfl ?_
    with_reducible refine WE.int ?_
    with_reducible refine WEs.nil ?_
    refine ⟨by simp, fun A hA => ?_⟩
    with_reducible refine WEs.cons rfl ?_
    with_reducible refine WE.binop ?_
    with_reducible refine WE.int ?_
    with_reducible refine WE.int ?_
    refine WB.pow (by decide) (by decide) (by decide) ?_
    with_reducible refine WEs.cons rfl ?_
    with_reducible refine WE.unary ?_
    with_reducible refine WE.binop ?_
    with_reducible refine WE.int ?_
    with_reducible refine WE.int ?_
    refine WB.pow (by decide) (by decide) (by decide) ?_
    with_reducible refine WU.neg ?_
    with_reducible refine WEs.nil ?_
    refine ⟨by simp, fun O hO => ?_⟩
    have m0 := fmod_ge ((cell * 48271).fmod 1000003) (show (1 : Int) ≤ 9 by decide)
    have m9 := fmod_lt ((cell * 48271).fmod 1000003) (show (1 : Int) ≤ 9 by decide)
    have m63 : ((cell * 48271).fmod 1000003).fmod 9 < 2 ^ 63 := by walk_at "om"
    have e3 : Extd σ2 ((σ2.put A 9 (.list [.int 3])).put O 9 (.list [.int (-1), .int 1000, .none, .bool true, .str "3", .bool false, .ref A, .int ((10 : Int) ^ (Int.toNat 20)), .int (-((10 : Int) ^ (Int.toNat 9)))])) := fun a p q => Hp.new hO.none (Hp.new hA.none q)
    have hA3 : ((σ2.put A 9 (.list [.int 3])).put O 9 (.list [.int (-1), .int 1000, .none, .bool true, .str "3", .bool false, .ref A, .int ((10 : Int) ^ (Int.toNat 20)), .int (-((10 : Int) ^ (Int.toNat 9)))])) A = some (9, .list [.int 3]) := Hp.new hO.none Hp.self
    have hO3 : ((σ2.put A 9 (.list [.int 3])).put O 9 (.list [.int (-1), .int 1000, .none, .bool true, .str "3", .bool false, .ref A, .int ((10 : Int) ^ (Int.toNat 20)), .int (-((10 : Int) ^ (Int.toNat 9)))])) O = some (9, .list [.int (-1), .int 1000, .none, .bool true, .str "3", .bool false, .ref A, .int ((10 : Int) ^ (Int.toNat 20)), .int (-((10 : Int) ^ (Int.toNat 9)))]) := Hp.self
    generalize (σ2.put A 9 (.list [.int 3])).put O 9 (.list [.int (-1), .int 1000, .none, .bool true, .str "3", .bool false, .ref A, .int ((10 : Int) ^ (Int.toNat 20)), .int (-((10 : Int) ^ (Int.toNat 9)))]) = σ3 at e3 hA3 hO3 ⊢
    obtain ⟨ov, hov, nov⟩ := odd_v (w := w) (mean := mean) (mg := mg) (mb := mb) hA3 m0 m9
    have d3 := d2.ext e3
    have hC3 := e3 _ _ hC2
    have hH3 := d3.h.hou
    clear d2 hC2 hA hO e3
    with_reducible refine WE.binop ?_
    with_reducible refine WE.binop ?_
    with_reducible refine WE.binop ?_
    with_reducible refine WE.localA (by kernel_rfl) (by kernel_rfl) (by walk_at "lk") ?_
    with_reducible refine WE.int ?_
    with_reducible refine WB.mul (IntMulOk.of_right (by decide)) ?_
    with_reducible refine WE.int ?_
    with_reducible refine WB.mod (by walk_at "ar") ?_
    with_reducible refine WE.int ?_
    with_reducible refine WB.mod (by walk_at "ar") ?_
    with_reducible refine WSub.list (by with_unfolding_all (first | exact fun _ _ => rfl | exact fun _ _ _ => rfl)) (by first | with_reducible assumption | ((with_reducible apply ListAt.own); walk_at "hp") | ((with_reducible apply ListAt.k); walk_at "hp")) (by walk_at "ar") (by walk_at "ar") (by with_reducible assumption) ?_
    with_reducible refine WSt.localA (by kernel_rfl) ?_
    refine WSs.splitO (fun ρ1 σ1 => Extd σ3 σ1 ∧ ρ1 "_law_rows" = some (.ref B) ∧ ρ1 "_law_house" = some (.ref H) ∧ ρ1 "_law_held" = some (.ref Hd) ∧ ρ1 (".0" : Str) = Option.none ∧ ρ1 "_law_cell" = some (.int cell) ∧ ρ1 "_law_count" = some (.int count)) ?_ ?_
    · intro KS hKS
      by_cases c4 : count.fmod 4 = 1
      · skip
        with_reducible refine WS.ite ?_
        with_reducible refine WT.bool ?_
        with_reducible refine WA.and ?_
        with_reducible refine WT.cmp1 rfl ?_
        with_reducible refine WE.binop ?_
        with_reducible refine WE.localA (by kernel_rfl) (by kernel_rfl) (by walk_at "lk") ?_
        with_reducible refine WE.int ?_
        with_reducible refine WB.mod (by walk_at "ar") ?_
        with_reducible refine WE.int ?_
        with_reducible refine WC.eqI ?_
        with_reducible refine WTr.bool ?_
        with_reducible refine if_et (by with_reducible assumption) ?_
        with_reducible refine WA.and ?_
        with_reducible refine WT.not ?_
        with_reducible refine WT.plain (by with_unfolding_all (first | exact fun _ _ => rfl | exact fun _ _ _ => rfl)) ?_
        with_reducible refine WE.call rfl rfl ?_
        with_reducible refine WE.globalA (by kernel_rfl) g_law_refused ?_
        with_reducible refine And.intro (Callee.fn fn_law_refused) ?_
        with_reducible refine WEs.cons rfl ?_
        with_reducible refine WE.localA (by kernel_rfl) (by kernel_rfl) (by walk_at "lk") ?_
        with_reducible refine WEs.cons rfl ?_
        with_reducible refine WE.localA (by kernel_rfl) (by kernel_rfl) (by walk_at "lk") ?_
        with_reducible refine WEs.nil ?_
        refine WCall.of_fn (refused_c d3.h nov fun σ4 e4 => ?_)
        with_reducible refine WTr.bool ?_
        with_reducible refine if_nt ?_
        with_reducible refine if_ff ?_
        with_reducible refine WSs.nil ?_
        exact hKS _ _ ⟨e4, by walk_at "lk", by walk_at "lk", by walk_at "lk", by ((repeat (first | assumption | (refine Lo.put_ne (by kernel_rfl) ?_)))), by walk_at "lk", by walk_at "lk"⟩
      · have b4 : (count.fmod 4 == 1) = false := beq_eq_false_iff_ne.mpr c4
        with_reducible refine WS.ite ?_
        with_reducible refine WT.bool ?_
        with_reducible refine WA.and ?_
        with_reducible refine WT.cmp1 rfl ?_
        with_reducible refine WE.binop ?_
        with_reducible refine WE.localA (by kernel_rfl) (by kernel_rfl) (by walk_at "lk") ?_
        with_reducible refine WE.int ?_
        with_reducible refine WB.mod (by walk_at "ar") ?_
        with_reducible refine WE.int ?_
        with_reducible refine WC.eqI ?_
        with_reducible refine WTr.bool ?_
        with_reducible refine if_pf (by with_reducible assumption) ?_
        with_reducible refine if_ff ?_
        with_reducible refine WSs.nil ?_
        exact hKS _ _ ⟨fun _ _ q => q, by walk_at "lk", by walk_at "lk", by walk_at "lk", by ((repeat (first | assumption | (refine Lo.put_ne (by kernel_rfl) ?_)))), by walk_at "lk", by walk_at "lk"⟩
    clear r1 r2 r3 r4
    rintro ρ1 σ4 ⟨e4, r1, r2, r3, r4, r5, r6⟩
    have d4 := d3.ext e4
    have hC4 := e4 _ _ hC3
    clear d3 hC3 hH3 hA3 hO3 nov hov e4
    have u0 := fmod_ge count (show (1 : Int) ≤ 12 by decide)
    have u1 := fmod_lt count (show (1 : Int) ≤ 12 by decide)
    have u2 := fmod_ge (count.fmod 12) (show (1 : Int) ≤ 9 by decide)
    have u3 := fmod_lt (count.fmod 12) (show (1 : Int) ≤ 9 by decide)
    have tl4 := d4.rows.len
    have rl4 := d4.rl
    have hB4 := d4.rows.lst
    have el4 : ((ts.map MV.ref).length : Int) = (R2.length : Int) := by rw [List.length_map, tl4]
    with_reducible refine WSs.cons ?_
    with_reducible refine WS.assign (by with_unfolding_all (first | exact fun _ _ => rfl | exact fun _ _ _ => rfl)) ?_
    with_reducible refine WE.binop ?_
    with_reducible refine WE.binop ?_
    with_reducible refine WE.localA (by kernel_rfl) (by kernel_rfl) (by walk_at "lk") ?_
    with_reducible refine WE.int ?_
    with_reducible refine WB.mod (by walk_at "ar") ?_
    with_reducible refine WE.int ?_
    with_reducible refine WB.mod (by walk_at "ar") ?_
    with_reducible refine WSt.localA (by kernel_rfl) ?_
    refine WSs.splitO (fun ρ1 σ1 => (∃ due : Int, 0 ≤ due ∧ due ≤ 999 ∧ ρ1 "_law_due" = some (.int due)) ∧ Extd σ4 σ1 ∧ ρ1 "_law_rows" = some (.ref B) ∧ ρ1 "_law_house" = some (.ref H) ∧ ρ1 "_law_held" = some (.ref Hd) ∧ ρ1 (".0" : Str) = Option.none ∧ ρ1 "_law_cell" = some (.int cell)) ?_ ?_
    · intro KS hKS
      by_cases c10 : count.fmod 12 = 10
      · have v0 := fmod_ge (count.fdiv 12) (show (1 : Int) ≤ 52 by decide)
        have v1 := fmod_lt (count.fdiv 12) (show (1 : Int) ≤ 52 by decide)
        by_cases c20 : (count.fdiv 12).fmod 20 = 0
        · by_cases c5 : (R2.length : Int) < 5
          · have x0 := fmod_ge (count.fdiv 480) (show (1 : Int) ≤ 939 by decide)
            have x1 := fmod_lt (count.fdiv 480) (show (1 : Int) ≤ 939 by decide)
            have y0 := fmod_ge (count.fdiv 240) (show (1 : Int) ≤ 2 by decide)
            have y1 := fmod_lt (count.fdiv 240) (show (1 : Int) ≤ 2 by decide)
            have y2 : (count.fdiv 240).fmod 2 < 2 ^ 63 := by walk_at "om"
            obtain ⟨dv, hdv, dv0, dv1⟩ : ∃ dv : Int, [MV.int 999, .int (61 + (count.fdiv 480).fmod 939)][((count.fdiv 240).fmod 2).toNat]? = some (.int dv) ∧ 0 ≤ dv ∧ dv ≤ 999 := by
              have hc : (count.fdiv 240).fmod 2 = 0 ∨ (count.fdiv 240).fmod 2 = 1 := by walk_at "om"
              rcases hc with q | q
              · exact ⟨999, by rw [q]; rfl, by decide, by decide⟩
              · exact ⟨61 + (count.fdiv 480).fmod 939, by rw [q]; rfl, by walk_at "om", by walk_at "om"⟩
            with_reducible refine WS.ite ?_
            with_reducible refine WT.cmp1 rfl ?_
            with_reducible refine WE.binop ?_
            with_reducible refine WE.localA (by kernel_rfl) (by kernel_rfl) (by walk_at "lk") ?_
            with_reducible refine WE.int ?_
            with_reducible refine WB.mod (by walk_at "ar") ?_
            with_reducible refine WE.int ?_
            with_reducible refine WC.eqI ?_
            with_reducible refine WTr.bool ?_
            with_reducible refine if_et (by with_reducible assumption) ?_
            with_reducible refine WSs.cons ?_
            with_reducible refine WS.assign (by with_unfolding_all (first | exact fun _ _ => rfl | exact fun _ _ _ => rfl)) ?_
            with_reducible refine WE.binop ?_
            with_reducible refine WE.int ?_
            with_reducible refine WE.binop ?_
            with_reducible refine WE.binop ?_
            with_reducible refine WE.localA (by kernel_rfl) (by kernel_rfl) (by walk_at "lk") ?_
            with_reducible refine WE.int ?_
            with_reducible refine WB.div (by walk_at "ar") (by walk_at "ar") ?_
            with_reducible refine WE.int ?_
            with_reducible refine WB.mod (by walk_at "ar") ?_
            with_reducible refine WB.add ?_
            with_reducible refine WSt.localA (by kernel_rfl) ?_
            with_reducible refine WSs.cons ?_
            with_reducible refine WS.ite ?_
            with_reducible refine WT.bool ?_
            with_reducible refine WA.and ?_
            with_reducible refine WT.cmp1 rfl ?_
            with_reducible refine WE.binop ?_
            with_reducible refine WE.binop ?_
            with_reducible refine WE.localA (by kernel_rfl) (by kernel_rfl) (by walk_at "lk") ?_
            with_reducible refine WE.int ?_
            with_reducible refine WB.div (by walk_at "ar") (by walk_at "ar") ?_
            with_reducible refine WE.int ?_
            with_reducible refine WB.mod (by walk_at "ar") ?_
            with_reducible refine WE.int ?_
            with_reducible refine WC.eqI ?_
            with_reducible refine WTr.bool ?_
            with_reducible refine if_et (by with_reducible assumption) ?_
            with_reducible refine WA.and ?_
            with_reducible refine WT.cmp1 rfl ?_
            with_reducible refine WE.call rfl rfl ?_
            with_reducible refine WE.globalA (by kernel_rfl) g_len ?_
            with_reducible refine And.intro (Callee.con rfl) ?_
            with_reducible refine WEs.cons rfl ?_
            with_reducible refine WE.localA (by kernel_rfl) (by kernel_rfl) (by walk_at "lk") ?_
            with_reducible refine WEs.nil ?_
            refine WCall.lenList (ListAt.own hB4) (by rw [List.length_map]; walk_at "om") ?_
            rw [el4]
            with_reducible refine WE.int ?_
            with_reducible refine WC.lt ?_
            with_reducible refine WTr.bool ?_
            with_reducible refine if_dt (by with_reducible assumption) ?_
            with_reducible refine WA.and_nil ?_
            with_reducible refine if_tt ?_
            with_reducible refine WSs.cons ?_
            with_reducible refine WS.assign (by with_unfolding_all (first | exact fun _ _ => rfl | exact fun _ _ _ => rfl)) ?_
            with_reducible refine WE.sub ?_
            refine WE.list 9 ?_
            with_reducible refine WEs.cons rfl ?_
            with_reducible refine WE.int ?_
            with_reducible refine WEs.cons rfl ?_
            with_reducible refine WE.binop ?_
            with_reducible refine WE.int ?_
            with_reducible refine WE.binop ?_
            with_reducible refine WE.binop ?_
            with_reducible refine WE.localA (by kernel_rfl) (by kernel_rfl) (by walk_at "lk") ?_
            with_reducible refine WE.int ?_
            with_reducible refine WB.div (by walk_at "ar") (by walk_at "ar") ?_
            with_reducible refine WE.int ?_
            with_reducible refine WB.mod (by walk_at "ar") ?_
            with_reducible refine WB.add ?_
            with_reducible refine WEs.nil ?_
            refine ⟨by simp, fun E hE => ?_⟩
            have hE5 : (σ4.put E 9 (.list [.int 999, .int (61 + (count.fdiv 480).fmod 939)])) E = some (9, .list [.int 999, .int (61 + (count.fdiv 480).fmod 939)]) := Hp.self
            have e5 : Extd σ4 (σ4.put E 9 (.list [.int 999, .int (61 + (count.fdiv 480).fmod 939)])) := fun a p q => Hp.new hE.none q
            generalize σ4.put E 9 (.list [.int 999, .int (61 + (count.fdiv 480).fmod 939)]) = σ5 at hE5 e5 ⊢
            with_reducible refine WE.binop ?_
            with_reducible refine WE.binop ?_
            with_reducible refine WE.localA (by kernel_rfl) (by kernel_rfl) (by walk_at "lk") ?_
            with_reducible refine WE.int ?_
            with_reducible refine WB.div (by walk_at "ar") (by walk_at "ar") ?_
            with_reducible refine WE.int ?_
            with_reducible refine WB.mod (by walk_at "ar") ?_
            with_reducible refine WSub.list (by with_unfolding_all (first | exact fun _ _ => rfl | exact fun _ _ _ => rfl)) (by first | with_reducible assumption | ((with_reducible apply ListAt.own); walk_at "hp") | ((with_reducible apply ListAt.k); walk_at "hp")) (by walk_at "ar") (by walk_at "ar") (by with_reducible assumption) ?_
            with_reducible refine WSt.localA (by kernel_rfl) ?_
            with_reducible refine WSs.nil ?_
            with_reducible refine WSs.nil ?_
            exact hKS _ _ ⟨⟨dv, dv0, dv1, by walk_at "lk"⟩, e5, by walk_at "lk", by walk_at "lk", by walk_at "lk", by ((repeat (first | assumption | (refine Lo.put_ne (by kernel_rfl) ?_)))), by walk_at "lk"⟩
          · skip
            with_reducible refine WS.ite ?_
            with_reducible refine WT.cmp1 rfl ?_
            with_reducible refine WE.binop ?_
            with_reducible refine WE.localA (by kernel_rfl) (by kernel_rfl) (by walk_at "lk") ?_
            with_reducible refine WE.int ?_
            with_reducible refine WB.mod (by walk_at "ar") ?_
            with_reducible refine WE.int ?_
            with_reducible refine WC.eqI ?_
            with_reducible refine WTr.bool ?_
            with_reducible refine if_et (by with_reducible assumption) ?_
            with_reducible refine WSs.cons ?_
            with_reducible refine WS.assign (by with_unfolding_all (first | exact fun _ _ => rfl | exact fun _ _ _ => rfl)) ?_
            with_reducible refine WE.binop ?_
            with_reducible refine WE.int ?_
            with_reducible refine WE.binop ?_
            with_reducible refine WE.binop ?_
            with_reducible refine WE.localA (by kernel_rfl) (by kernel_rfl) (by walk_at "lk") ?_
            with_reducible refine WE.int ?_
            with_reducible refine WB.div (by walk_at "ar") (by walk_at "ar") ?_
            with_reducible refine WE.int ?_
            with_reducible refine WB.mod (by walk_at "ar") ?_
            with_reducible refine WB.add ?_
            with_reducible refine WSt.localA (by kernel_rfl) ?_
            with_reducible refine WSs.cons ?_
            with_reducible refine WS.ite ?_
            with_reducible refine WT.bool ?_
            with_reducible refine WA.and ?_
            with_reducible refine WT.cmp1 rfl ?_
            with_reducible refine WE.binop ?_
            with_reducible refine WE.binop ?_
            with_reducible refine WE.localA (by kernel_rfl) (by kernel_rfl) (by walk_at "lk") ?_
            with_reducible refine WE.int ?_
            with_reducible refine WB.div (by walk_at "ar") (by walk_at "ar") ?_
            with_reducible refine WE.int ?_
            with_reducible refine WB.mod (by walk_at "ar") ?_
            with_reducible refine WE.int ?_
            with_reducible refine WC.eqI ?_
            with_reducible refine WTr.bool ?_
            with_reducible refine if_et (by with_reducible assumption) ?_
            with_reducible refine WA.and ?_
            with_reducible refine WT.cmp1 rfl ?_
            with_reducible refine WE.call rfl rfl ?_
            with_reducible refine WE.globalA (by kernel_rfl) g_len ?_
            with_reducible refine And.intro (Callee.con rfl) ?_
            with_reducible refine WEs.cons rfl ?_
            with_reducible refine WE.localA (by kernel_rfl) (by kernel_rfl) (by walk_at "lk") ?_
            with_reducible refine WEs.nil ?_
            refine WCall.lenList (ListAt.own hB4) (by rw [List.length_map]; walk_at "om") ?_
            rw [el4]
            with_reducible refine WE.int ?_
            with_reducible refine WC.lt ?_
            with_reducible refine WTr.bool ?_
            with_reducible refine if_df (by with_reducible assumption) ?_
            with_reducible refine if_ff ?_
            with_reducible refine WSs.nil ?_
            with_reducible refine WSs.nil ?_
            exact hKS _ _ ⟨⟨9 + (count.fdiv 12).fmod 52, by walk_at "om", by walk_at "om", by walk_at "lk"⟩, fun _ _ q => q, by walk_at "lk", by walk_at "lk", by walk_at "lk", by ((repeat (first | assumption | (refine Lo.put_ne (by kernel_rfl) ?_)))), by walk_at "lk"⟩
        · have b20 : ((count.fdiv 12).fmod 20 == 0) = false := beq_eq_false_iff_ne.mpr c20
          with_reducible refine WS.ite ?_
          with_reducible refine WT.cmp1 rfl ?_
          with_reducible refine WE.binop ?_
          with_reducible refine WE.localA (by kernel_rfl) (by kernel_rfl) (by walk_at "lk") ?_
          with_reducible refine WE.int ?_
          with_reducible refine WB.mod (by walk_at "ar") ?_
          with_reducible refine WE.int ?_
          with_reducible refine WC.eqI ?_
          with_reducible refine WTr.bool ?_
          with_reducible refine if_et (by with_reducible assumption) ?_
          with_reducible refine WSs.cons ?_
          with_reducible refine WS.assign (by with_unfolding_all (first | exact fun _ _ => rfl | exact fun _ _ _ => rfl)) ?_
          with_reducible refine WE.binop ?_
          with_reducible refine WE.int ?_
          with_reducible refine WE.binop ?_
          with_reducible refine WE.binop ?_
          with_reducible refine WE.localA (by kernel_rfl) (by kernel_rfl) (by walk_at "lk") ?_
          with_reducible refine WE.int ?_
          with_reducible refine WB.div (by walk_at "ar") (by walk_at "ar") ?_
          with_reducible refine WE.int ?_
          with_reducible refine WB.mod (by walk_at "ar") ?_
          with_reducible refine WB.add ?_
          with_reducible refine WSt.localA (by kernel_rfl) ?_
          with_reducible refine WSs.cons ?_
          with_reducible refine WS.ite ?_
          with_reducible refine WT.bool ?_
          with_reducible refine WA.and ?_
          with_reducible refine WT.cmp1 rfl ?_
          with_reducible refine WE.binop ?_
          with_reducible refine WE.binop ?_
          with_reducible refine WE.localA (by kernel_rfl) (by kernel_rfl) (by walk_at "lk") ?_
          with_reducible refine WE.int ?_
          with_reducible refine WB.div (by walk_at "ar") (by walk_at "ar") ?_
          with_reducible refine WE.int ?_
          with_reducible refine WB.mod (by walk_at "ar") ?_
          with_reducible refine WE.int ?_
          with_reducible refine WC.eqI ?_
          with_reducible refine WTr.bool ?_
          with_reducible refine if_pf (by with_reducible assumption) ?_
          with_reducible refine if_ff ?_
          with_reducible refine WSs.nil ?_
          with_reducible refine WSs.nil ?_
          exact hKS _ _ ⟨⟨9 + (count.fdiv 12).fmod 52, by walk_at "om", by walk_at "om", by walk_at "lk"⟩, fun _ _ q => q, by walk_at "lk", by walk_at "lk", by walk_at "lk", by ((repeat (first | assumption | (refine Lo.put_ne (by kernel_rfl) ?_)))), by walk_at "lk"⟩
      · have b10 : (count.fmod 12 == 10) = false := beq_eq_false_iff_ne.mpr c10
        with_reducible refine WS.ite ?_
        with_reducible refine WT.cmp1 rfl ?_
        with_reducible refine WE.binop ?_
        with_reducible refine WE.localA (by kernel_rfl) (by kernel_rfl) (by walk_at "lk") ?_
        with_reducible refine WE.int ?_
        with_reducible refine WB.mod (by walk_at "ar") ?_
        with_reducible refine WE.int ?_
        with_reducible refine WC.eqI ?_
        with_reducible refine WTr.bool ?_
        with_reducible refine if_pf (by with_reducible assumption) ?_
        with_reducible refine WSs.nil ?_
        exact hKS _ _ ⟨⟨(count.fmod 12).fmod 9, by walk_at "om", by walk_at "om", by walk_at "lk"⟩, fun _ _ q => q, by walk_at "lk", by walk_at "lk", by walk_at "lk", by ((repeat (first | assumption | (refine Lo.put_ne (by kernel_rfl) ?_)))), by walk_at "lk"⟩
    clear r1 r2 r3 r4 r5 r6
    rintro ρ2 σ5 ⟨⟨due, du0, du1, r6⟩, e5, r1, r2, r3, r4, r5⟩
    have d5 := d4.ext e5
    have hC5 := e5 _ _ hC4
    clear d4 hC4 hB4 e5
    with_reducible refine WSs.cons ?_
    with_reducible refine WS.ite ?_
    with_reducible refine WT.not ?_
    with_reducible refine WT.plain (by with_unfolding_all (first | exact fun _ _ => rfl | exact fun _ _ _ => rfl)) ?_
    with_reducible refine WE.call rfl rfl ?_
    with_reducible refine WE.globalA (by kernel_rfl) g_law_ahead ?_
    with_reducible refine And.intro (Callee.fn fn_law_ahead) ?_
    with_reducible refine WEs.cons rfl ?_
    with_reducible refine WE.localA (by kernel_rfl) (by kernel_rfl) (by walk_at "lk") ?_
    with_reducible refine WEs.cons rfl ?_
    with_reducible refine WE.localA (by kernel_rfl) (by kernel_rfl) (by walk_at "lk") ?_
    with_reducible refine WEs.cons rfl ?_
    with_reducible refine WE.localA (by kernel_rfl) (by kernel_rfl) (by walk_at "lk") ?_
    with_reducible refine WEs.cons rfl ?_
    with_reducible refine WE.localA (by kernel_rfl) (by kernel_rfl) (by walk_at "lk") ?_
    with_reducible refine WEs.cons rfl ?_
    with_reducible refine WE.binop ?_
    with_reducible refine WE.binop ?_
    with_reducible refine WE.localA (by kernel_rfl) (by kernel_rfl) (by walk_at "lk") ?_
    with_reducible refine WE.int ?_
    with_reducible refine WB.mul (IntMulOk.of_right (by decide)) ?_
    with_reducible refine WE.int ?_
    with_reducible refine WB.mod (by walk_at "ar") ?_
    with_reducible refine WEs.nil ?_
    refine WCall.of_fn (ahead_c (s := s) d5.h d5.rel d5.rows (by walk_at "om") d5.bd (by walk_at "om") du0 du1 d5.hd (by walk_at "om") d5.held fun tm6 vs6 σ6 h6 rel6 bd6 hR6 hd6 vl6 hld6 k6 => ?_)
    with_reducible refine WTr.bool ?_
    with_reducible refine if_nt ?_
    with_reducible refine WSs.nil ?_
    with_reducible refine WSs.nil ?_
    exact hKL _ _ ⟨⟨tm6, ab2, R2, vs6, ⟨h6, rel6, hR6, d5.ok, d5.rl, bd6, hd6, hld6⟩, by walk_at "om"⟩, k6 _ _ _ hC5 (by decide) (by decide) (by decide), by walk_at "lk", by walk_at "lk", by walk_at "lk", by ((repeat (first | assumption | (refine Lo.put_ne (by kernel_rfl) ?_))))⟩
  · rintro ρ2 σ2 ⟨⟨tm, ab, R, vs, d, vl⟩, hC, q1, q2, q3, q4⟩
    refine ⟨ListAt.own hC, ?_⟩
    with_reducible refine WSs.cons ?_
    with_reducible refine WS.ret ?_
    with_reducible refine WE.cmp1 rfl ?_
    refine WE.compA 9 rfl (by with_unfolding_all (first | exact fun _ _ => rfl | exact fun _ _ _ => rfl)) (by kernel_rfl) (by ((repeat (first | assumption | (refine Lo.put_ne (by kernel_rfl) ?_))))) ?_
    with_reducible refine WE.localA (by kernel_rfl) (by kernel_rfl) (by walk_at "lk") ?_
    refine ⟨_, _, Iterable.list (ListAt.own d.hd), by walk_at "om", ?_⟩
    refine held_eqF d.hd d.held (fun u L L2 us us2 ps hu hL hL2 K hK => ?_) fun D hD => ?_
    · skip
      with_reducible refine WT.cmp1 rfl ?_
      with_reducible refine WE.sub ?_
      with_reducible refine WE.localA (by kernel_rfl) (by kernel_rfl) (by walk_at "lk") ?_
      with_reducible refine WE.int ?_
      refine WSub.tuple (by with_unfolding_all (first | exact fun _ _ => rfl | exact fun _ _ _ => rfl)) hu (by decide) (by decide) rfl ?_
      with_reducible refine WE.sub ?_
      with_reducible refine WE.localA (by kernel_rfl) (by kernel_rfl) (by walk_at "lk") ?_
      with_reducible refine WE.int ?_
      refine WSub.tuple (by with_unfolding_all (first | exact fun _ _ => rfl | exact fun _ _ _ => rfl)) hu (by decide) (by decide) rfl ?_
      refine WC.ne (Nat.succ_le_succ (Nat.zero_le _)) (by decide) (RnV.listT (k := 1) (ListAt.own hL.lst) (ListAt.own hL2.lst) (pth_eqs hL.pth hL2.pth)) ?_
      with_reducible refine WTr.bool ?_
      exact hK
    skip
    refine WE.list 9 ?_
    with_reducible refine WEs.nil ?_
    refine ⟨by simp, fun E hE => ?_⟩
    refine WC.eq (Nat.succ_le_succ (Nat.zero_le _)) (by decide) (eqNil (us := []) (Hp.new hE.none Hp.self) Hp.self).1 ?_
    exact rfl
end Mine
open PySem PySem.W PyProof.Rows
set_option maxRecDepth 100000 in
set_option maxHeartbeats 8000000 in
theorem PySem.Challenge.cw_uf030004_13_holds : PySem.Challenge.rw_uf030004_13.Holds := by
  refine Mine.hd ?_
  k_fill
  intro w s₀ s₁ mg mb G Y fa o pm cd doc dV kV ho hd hcd hD hmg hg args vals as hpre hlay hrd hwl hlo
  have KX := kIn_of Y
  have X := (Ground.X G).1
  have V := (Ground.X G).2
  refine Ground.open G ?_
  intro T B D TE TW
  wrow_args hpre hlay hrd hwl hlo
  all_goals (first | refine callC_kw (enter_call ?_) | refine enter_call ?_ | refine callC_kw (enter_callW ?_) | refine enter_callW ?_ | w_how)
  all_goals w_top on
  refine codeAny_mono ?_ (fun _ _ g => GoodW.toG g)
  have he := Dflts.none hD rfl
  subst he
  have he := Dflts.noKw hD
  subst he
  obtain ⟨body, scope, F, hw⟩ := Mine.law_A0 (w := w) (mean := ExcName.means s₀.heap) (mg := mg) (mb := mb)
  refine Mine.law_enter (c := Mine.cx w (ExcName.means s₀.heap) mg mb) (Mine.cx_ok w _ mg mb) (p := "_law_script") ho hd hcd KX T (fun u => rfl) (by decide +kernel) (by assumption) (by assumption) (fun ol => ?_) fun s' hk ho hg' => ?_
  · have F' : Mine.FnAt (Mine.cx w (ExcName.means s₀.heap) mg mb) Mine.a_law ["_law_script"] _ _ := ⟨⟨_, _, _, _, _, _, _, _, _, _, _, _, _, (rfl : (Mine.hd.heap_39 w.params).lookup Mine.a_law = _), by kernel_rfl, Mine.us1 fun _ => rfl⟩, by decide +kernel⟩
    obtain ⟨rfl, rfl⟩ := Mine.FnAt.unique F F'
    exact hw _ _ ol (by omega)
  · exact ⟨.inl ⟨_, _, _, rfl, fun cls => rfl, ReadsW.bool true, by kernel_rfl, fun _ => ⟨List.nodup_nil, fun a h => by cases h⟩⟩, hk, ho, hg'.trans hg⟩

