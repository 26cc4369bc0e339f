import PyProof.Rows.All
import Wide.All
import OpenK.AllK
import Wide.FinOn
import PySem.Challenge.RW_uf030004_09
set_option linter.all false
set_option Elab.async false
set_option genSizeOfSpec false
set_option maxHeartbeats 4000000
set_option maxRecDepth 100000
open PySem PySem.W PyProof.Rows
namespace Mine
inductive MV where
  | none | bool (b : Bool) | int (i : Int) | str (x : Str) | ref (a : Nat) | con (v : Value)
def MV.Is : MV → Value → Prop
  | .none, v => v = .none
  | .bool b, v => v = .bool b
  | .int i, v => ∃ t, v = .int i t
  | .str x, v => ∃ t, v = .str x t
  | .ref a, v => v = .ref a
  | .con c, v => v = c
inductive All2 {α β : Type} (R : α → β → Prop) : List α → List β → Prop
  | nil : All2 R [] []
  | cons {a b l m} : R a b → All2 R l m → All2 R (a :: l) (b :: m)
theorem All2.length {α β : Type} {R : α → β → Prop} {l : List α} {m : List β} (h : All2 R l m) : l.length = m.length := by
  induction h with
  | nil => rfl
  | cons _ _ ih => simp [ih]
theorem All2.get {α β : Type} {R : α → β → Prop} {l : List α} {m : List β} (h : All2 R l m) : ∀ {i : Nat} {a : α}, l[i]? = some a → ∃ b, m[i]? = some b ∧ R a b := by
  induction h with
  | nil => intro i a e; simp at e
  | cons r _ ih =>
    intro i a e
    cases i with
    | zero => simp at e; subst e; exact ⟨_, by simp, r⟩
    | succ i => simp at e; simpa using ih e
theorem All2.append {α β : Type} {R : α → β → Prop} {l l' : List α} {m m' : List β} (h : All2 R l m) (h' : All2 R l' m') : All2 R (l ++ l') (m ++ m') := by
  induction h with
  | nil => exact h'
  | cons r _ ih => exact .cons r ih
inductive MO where
  | list (xs : List MV) | tuple (xs : List MV) | sdict (es : List (Str × MV)) | idict (es : List (Int × MV)) (ep : Nat) | edict (es : List (Str × MV)) (ep : Nat) | inst (C : Nat) (fs : List (Str × MV)) | exc (C : Nat) | range (lo hi : Int) | klist (xs : List MV) (o : Obj)
def FieldsAre (P : Params) : List (Str × MV) → List DictEntry → Prop :=
  All2 fun p e => e.hash = PyData.keyHash P p.1 ∧ (∃ t, e.key = .str p.1 t) ∧ p.2.Is e.val
def KeyIs {κ : Type} [DecidableEq κ] {prog : Program} {w : World} (knd : KeyKind prog w κ) (o : Obj) (es : List (κ × MV)) : Prop :=
  ∃ kvs : List (κ × Value), o.IsDictOf knd kvs ∧ All2 (fun (p : κ × MV) (q : κ × Value) => p.1 = q.1 ∧ p.2.Is q.2) es kvs
def ObjAt (prog : Program) (w : World) (h : Heap) (a : Nat) : MO → Prop
  | .list xs => ∃ its n, h.get? a = some (listOf its n) ∧ All2 MV.Is xs its.toList
  | .tuple xs => ∃ its n, h.get? a = some ({ cls := .type "tuple", data := .seq its n } : Obj) ∧ All2 MV.Is xs its.toList
  | .sdict es => (a == sysModules) = false ∧ ∃ o, h.get? a = some o ∧ KeyIs (strKind prog w) o es
  | .idict es ep => (a == sysModules) = false ∧ ∃ o, h.get? a = some o ∧ KeyIs (intKind prog w) o es ∧ ∃ q, o.data = .dict q ep
  | .edict es ep => (a == sysModules) = false ∧ ∃ o, h.get? a = some o ∧ KeyIs (strKind prog w) o es ∧ ∃ q, o.data = .dict q ep
  | .inst C fs => ∃ d es n, a = d + 1 ∧ h.get? a = some (instObj C d) ∧ h.get? d = some (dictOf es n) ∧ FieldsAre w.params fs es
  | .exc C => ∃ o, h.get? a = some o ∧ o.cls = .ref C ∧ notCls o = true
  | .range lo hi => ∃ t u v, IsRange h a lo hi 1 t u v
  | .klist xs o => h.get? a = some o ∧ o.cls = .type "list" ∧ ∃ its n, o.data = .seq its n ∧ All2 MV.Is xs its.toList
def MO.isK : MO → Bool
  | .klist .. => true
  | _ => false
abbrev Hp := Nat → Option (Nat × MO)
abbrev Lo := Str → Option MV
def Hp.put (σ : Hp) (a : Nat) (t : Nat) (o : MO) : Hp := fun b => if b = a then some (t, o) else σ b
def Lo.put (ρ : Lo) (x : Str) (v : MV) : Lo := fun y => if y = x then some v else ρ y
def Foot (σ : Hp) (a : Nat) : Prop := (∃ t mo, σ a = some (t, mo) ∧ mo.isK = false) ∨ ∃ t C fs, σ (a + 1) = some (t, .inst C fs)
set_option genInjectivity false in
structure Fm where
  A : Around
  env : Env
  top : Env
  outer : List Env
  slotted : List Nat
  base : Heap
abbrev Fm.L (f : Fm) : Nat := f.env.locals
abbrev Fm.cells (f : Fm) : List (Str × Nat) := f.env.cells
abbrev Fm.scope (f : Fm) : Scope := f.env.scope
def frameAddrs (l : List Env) : List Nat := l.filterMap (·.frame)
def OptIs : Option MV → Option Value → Prop
  | some m, some v => m.Is v
  | none, _ => True
  | some _, none => False
structure Rel (prog : Program) (w : World) (f : Fm) (ρ : Lo) (σ : Hp) (fr : Nat → Option Obj) (z s : Shared) : Prop where
  same : s.gens = z.gens ∧ s.drawn = z.drawn ∧ s.os = z.os
  keep : ∀ a o, fr a = some o → ∃ sl, s.heap.get? a = some { o with slots := sl } ∧ (a ∉ f.slotted → sl = o.slots)
  objs : ∀ a t mo, σ a = some (t, mo) → ObjAt prog w s.heap a mo
  wf : ∀ a t C fs, σ (a + 1) = some (t, .inst C fs) → σ a = none
  apart : ∀ a, Foot σ a → fr a = none ∧ a ≠ f.L ∧ ∀ x c, (x, c) ∈ f.cells → a ≠ c
  ns : ∃ m, s.heap.Ns f.L m ∧ ∀ x, f.scope.names.lookup x = some .local → OptIs (ρ x) (m x)
  cel : ∀ x c, (x, c) ∈ f.cells → ∃ o v, s.heap.get? c = some o ∧ o.data = .cell v ∧ OptIs (ρ x) v
  frame : fr f.L = none ∧ ∀ x c, (x, c) ∈ f.cells → fr c = none ∧ c ≠ f.L
  kl : ∀ a t xs o, σ a = some (t, .klist xs o) → f.base.get? a = some o
def MO.isInst : MO → Bool
  | .inst .. => true
  | _ => false
section
variable {prog : Program} {w : World} {h h' : Heap} {a : Nat} {mo : MO}
theorem ObjAt.there (x : ObjAt prog w h a mo) : ∃ o, h.get? a = some o := by
  cases mo with
  | list xs => obtain ⟨its, n, e, _⟩ := x; exact ⟨_, e⟩
  | tuple xs => obtain ⟨its, n, e, _⟩ := x; exact ⟨_, e⟩
  | sdict es => obtain ⟨_, o, e, _⟩ := x; exact ⟨_, e⟩
  | idict es ep => obtain ⟨_, o, e, _⟩ := x; exact ⟨_, e⟩
  | edict es ep => obtain ⟨_, o, e, _⟩ := x; exact ⟨_, e⟩
  | inst C fs => obtain ⟨d, es, n, _, e, _⟩ := x; exact ⟨_, e⟩
  | exc C => obtain ⟨o, e, _⟩ := x; exact ⟨_, e⟩
  | range lo hi => obtain ⟨t, u, v, e⟩ := x; exact ⟨_, e⟩
  | klist xs o => exact ⟨_, x.1⟩
theorem ObjAt.dict_there {C : Nat} {fs : List (Str × MV)} (x : ObjAt prog w h (a + 1) (.inst C fs)) : ∃ o, h.get? a = some o := by
  obtain ⟨d, es, n, e1, _, e2, _⟩ := x
  obtain rfl : a = d := Nat.succ.inj e1
  exact ⟨_, e2⟩
theorem ObjAt.of_same (x : ObjAt prog w h a mo) (k : ∀ o, h.get? a = some o → h'.get? a = some o) (k' : ∀ d o, mo.isInst = true → a = d + 1 → h.get? d = some o → h'.get? d = some o) : ObjAt prog w h' a mo := by
  cases mo with
  | list xs => obtain ⟨its, n, e, r⟩ := x; exact ⟨its, n, k _ e, r⟩
  | tuple xs => obtain ⟨its, n, e, r⟩ := x; exact ⟨its, n, k _ e, r⟩
  | sdict es => obtain ⟨l, o, e, r⟩ := x; exact ⟨l, o, k _ e, r⟩
  | idict es ep => obtain ⟨l, o, e, r⟩ := x; exact ⟨l, o, k _ e, r⟩
  | edict es ep => obtain ⟨l, o, e, r⟩ := x; exact ⟨l, o, k _ e, r⟩
  | inst C fs => obtain ⟨d, es, n, e0, e, e', r⟩ := x; exact ⟨d, es, n, e0, k _ e, k' d _ rfl e0 e', r⟩
  | exc C => obtain ⟨o, e, r⟩ := x; exact ⟨o, k _ e, r⟩
  | range lo hi => obtain ⟨t, u, v, e⟩ := x; exact ⟨t, u, v, k _ e⟩
  | klist xs o => exact ⟨k _ x.1, x.2⟩
theorem ObjAt.keeps (x : ObjAt prog w h a mo) (k : ∀ b o, h.get? b = some o → h'.get? b = some o) : ObjAt prog w h' a mo :=
  x.of_same (fun o e => k a o e) fun d o _ _ e => k d o e
end
theorem Hp.put_self (σ : Hp) (a : Nat) (t : Nat) (o : MO) : (σ.put a t o) a = some (t, o) := by simp [Hp.put]
theorem Hp.put_ne (σ : Hp) {a b : Nat} (t : Nat) (o : MO) (h : b ≠ a) : (σ.put a t o) b = σ b := by simp [Hp.put, h]
def Kept (L : Nat) (D : Nat → Prop) (h h' : Heap) : Prop := (∀ a o, ¬ D a → a ≠ L → h.get? a = some o → h'.get? a = some o) ∧ ∀ m, h.Ns L m → h'.Ns L m
theorem Kept.of_grown {L : Nat} {h h' : Heap} (k : ∀ b o, h.get? b = some o → h'.get? b = some o) {D : Nat → Prop} : Kept L D h h' :=
  ⟨fun a o _ _ e => k a o e, fun m ⟨o, es, ep, e, r⟩ => ⟨o, es, ep, k _ _ e, r⟩⟩
theorem Kept.of_same {L d : Nat} {h h' : Heap} (hs : Heap.SameBut d h h') (hd : d ≠ L) : Kept L (· = d) h h' :=
  ⟨fun a o n _ e => (hs.2 a n).trans e, fun m hn => hn.sameBut hs (Ne.symm hd)⟩
section
variable {prog : Program} {w : World} {f : Fm} {ρ : Lo} {σ : Hp} {fr : Nat → Option Obj} {z s : Shared}
theorem Rel.some_lt (R : Rel prog w f ρ σ fr z s) {a : Nat} {p : Nat × MO} (e : σ a = some p) : a < s.heap.objs.size := by
  obtain ⟨t, mo⟩ := p; obtain ⟨o, ho⟩ := (R.objs a t mo e).there; exact Heap.lt_size ho
theorem Rel.foot_lt (R : Rel prog w f ρ σ fr z s) {a : Nat} (x : Foot σ a) : a < s.heap.objs.size := by
  rcases x with ⟨t, mo, e, _⟩ | ⟨t, C, fs, x⟩
  · exact R.some_lt e
  · obtain ⟨o, ho⟩ := (R.objs _ t _ x).dict_there; exact Heap.lt_size ho
theorem Rel.fr_lt (R : Rel prog w f ρ σ fr z s) {a : Nat} {o : Obj} (x : fr a = some o) : a < s.heap.objs.size := let ⟨_, e, _⟩ := R.keep a o x; Heap.lt_size e
theorem Rel.L_lt (R : Rel prog w f ρ σ fr z s) : f.L < s.heap.objs.size := by obtain ⟨m, h, _⟩ := R.ns; exact h.lt
theorem Rel.cel_lt (R : Rel prog w f ρ σ fr z s) {x : Str} {c : Nat} (h : (x, c) ∈ f.cells) : c < s.heap.objs.size := by obtain ⟨o, v, e, _⟩ := R.cel x c h; exact Heap.lt_size e
theorem Foot.of_some {σ : Hp} {a t : Nat} {mo : MO} (e : σ a = some (t, mo)) (h : mo.isK = false) : Foot σ a := .inl ⟨t, mo, e, h⟩
theorem Rel.neL (R : Rel prog w f ρ σ fr z s) {a t : Nat} {mo : MO} (e : σ a = some (t, mo)) : a ≠ f.L := by
  cases h : mo.isK with
  | false => exact (R.apart a (.of_some e h)).2.1
  | true =>
    cases mo <;> first | cases h | skip
    intro q
    obtain ⟨h1, _, its, n, h2, _⟩ := R.objs a t _ e
    obtain ⟨m, ⟨o, es, ep, h3, h4, _⟩, _⟩ := R.ns
    rw [q, h3] at h1
    cases h1
    rw [h2] at h4; cases h4
theorem Rel.neC (R : Rel prog w f ρ σ fr z s) {a t : Nat} {mo : MO} (e : σ a = some (t, mo)) {x : Str} {c : Nat} (hc : (x, c) ∈ f.cells) : a ≠ c := by
  cases h : mo.isK with
  | false => exact (R.apart a (.of_some e h)).2.2 x c hc
  | true =>
    cases mo <;> first | cases h | skip
    intro q
    obtain ⟨h1, _, its, n, h2, _⟩ := R.objs a t _ e
    obtain ⟨o, v, h3, h4, _⟩ := R.cel x c hc
    rw [q, h3] at h1
    cases h1
    rw [h2] at h4; cases h4
theorem Rel.kept (R : Rel prog w f ρ σ fr z s) {h' : Heap} {tk : Nat} (k : Kept f.L (fun _ => False) s.heap h') : Rel prog w f ρ σ fr z { s with heap := h', toks := tk } where
  same := R.same
  keep := fun a o e => let ⟨sl, e1, e2⟩ := R.keep a o e; ⟨sl, k.1 a _ id (fun q => by have := R.frame.1; rw [← q, e] at this; cases this) e1, e2⟩
  objs := fun a t mo e => (R.objs a t mo e).of_same (fun o e' => k.1 a o id (R.neL e) e') fun d o hi ed e' => k.1 d o id (by
    subst ed
    cases mo <;> first | cases hi | skip
    exact (R.apart d (.inr ⟨_, _, _, e⟩)).2.1) e'
  wf := R.wf
  apart := R.apart
  ns := by obtain ⟨m, hn, q⟩ := R.ns; exact ⟨m, k.2 m hn, q⟩
  cel := fun x c hc => by obtain ⟨o, v, e, r⟩ := R.cel x c hc; exact ⟨o, v, k.1 c _ id (R.frame.2 x c hc).2 e, r⟩
  frame := R.frame
  kl := R.kl
theorem Rel.grown (R : Rel prog w f ρ σ fr z s) {h' : Heap} {tk : Nat} (k : ∀ b o, s.heap.get? b = some o → h'.get? b = some o) : Rel prog w f ρ σ fr z { s with heap := h', toks := tk } := R.kept (.of_grown k)
theorem Rel.toks (R : Rel prog w f ρ σ fr z s) (tk : Nat) : Rel prog w f ρ σ fr z { s with toks := tk } := R.grown (h' := s.heap) fun _ _ e => e
theorem Rel.alloc (R : Rel prog w f ρ σ fr z s) {h' : Heap} {tk : Nat} {b : Nat} {mo : MO} (t : Nat) (k : Kept f.L (fun _ => False) s.heap h') (hb : s.heap.objs.size ≤ b)
    (hi : mo.isInst = true → s.heap.objs.size < b) (x : ObjAt prog w h' b mo) (hk : mo.isK = false := by rfl) : Rel prog w f ρ (σ.put b t mo) fr z { s with heap := h', toks := tk } where
  same := R.same
  keep := (R.kept (tk := tk) k).keep
  objs := fun a t' mo' e => by
    by_cases q : a = b
    · subst q; rw [Hp.put_self] at e; cases e; exact x
    · rw [Hp.put_ne _ _ _ q] at e; exact (R.kept (tk := tk) k).objs a t' mo' e
  wf := fun a t' C fs e => by
    by_cases q : a + 1 = b
    · rw [q, Hp.put_self] at e
      obtain ⟨rfl, rfl⟩ : t' = t ∧ mo = .inst C fs := by cases e; exact ⟨rfl, rfl⟩
      have h5 := hi rfl
      rw [← q] at h5
      rw [Hp.put_ne _ _ _ (fun q2 => Nat.succ_ne_self a (q.trans q2.symm))]
      cases e' : σ a with
      | none => rfl
      | some p => exact absurd (R.some_lt e') (Nat.not_lt.mpr (Nat.le_of_lt_succ h5))
    · rw [Hp.put_ne _ _ _ q] at e
      have : a < s.heap.objs.size := R.foot_lt (.inr ⟨t', C, fs, e⟩)
      rw [Hp.put_ne _ _ _ (Nat.ne_of_lt (Nat.lt_of_lt_of_le this hb))]
      exact R.wf a t' C fs e
  apart := fun a fa => by
    have new : s.heap.objs.size ≤ a → fr a = none ∧ a ≠ f.L ∧ ∀ x c, (x, c) ∈ f.cells → a ≠ c := fun ha => by
      refine ⟨?_, ?_, fun y c hc => ?_⟩
      · cases e : fr a with
        | none => rfl
        | some o => exact absurd (R.fr_lt e) (Nat.not_lt.mpr ha)
      · exact (Nat.ne_of_lt (Nat.lt_of_lt_of_le R.L_lt ha)).symm
      · exact (Nat.ne_of_lt (Nat.lt_of_lt_of_le (R.cel_lt hc) ha)).symm
    by_cases q : a = b
    · exact new (q ▸ hb)
    · by_cases q' : a + 1 = b
      · by_cases ho : Foot σ a
        · exact R.apart a ho
        · refine new ?_
          rcases fa with ⟨t', mo', fa, fk⟩ | ⟨t', C, fs, e⟩
          · rw [Hp.put_ne _ _ _ q] at fa; exact absurd (.of_some fa fk) ho
          · rw [q', Hp.put_self] at e
            obtain ⟨rfl, rfl⟩ : t' = t ∧ mo = .inst C fs := by cases e; exact ⟨rfl, rfl⟩
            have h5 := hi rfl
            rw [← q'] at h5
            exact Nat.le_of_lt_succ h5
      · refine R.apart a ?_
        rcases fa with ⟨t', mo', fa, fk⟩ | ⟨t', C, fs, e⟩
        · rw [Hp.put_ne _ _ _ q] at fa; exact .of_some fa fk
        · rw [Hp.put_ne _ _ _ q'] at e; exact .inr ⟨t', C, fs, e⟩
  ns := (R.kept (tk := tk) k).ns
  cel := (R.kept (tk := tk) k).cel
  frame := R.frame
  kl := fun a t' xs o e => by
    by_cases q : a = b
    · subst q; rw [Hp.put_self] at e; cases e; cases hk
    · rw [Hp.put_ne _ _ _ q] at e; exact R.kl a t' xs o e
theorem Rel.upd (R : Rel prog w f ρ σ fr z s) {h' : Heap} {tk : Nat} {d : Nat} {t t' : Nat} {mo mo' : MO} (hd : σ d = some (t, mo)) (hk : mo.isK = false) (hi' : mo'.isInst = false) (hs : Kept f.L (· = d) s.heap h')
    (x : ObjAt prog w h' d mo') (hk' : mo'.isK = false := by rfl) : Rel prog w f ρ (σ.put d t' mo') fr z { s with heap := h', toks := tk } where
  same := R.same
  keep := fun a o e => let ⟨sl, e1, e2⟩ := R.keep a o e; ⟨sl, hs.1 a _ (fun q => by have := (R.apart d (.of_some hd hk)).1; rw [← q, e] at this; cases this) (fun q => by have := R.frame.1; rw [← q, e] at this; cases this) e1, e2⟩
  objs := fun a t₁ mo₁ e => by
    by_cases q : a = d
    · subst q; rw [Hp.put_self] at e; cases e; exact x
    · rw [Hp.put_ne _ _ _ q] at e
      refine (R.objs a t₁ mo₁ e).of_same (fun o e' => hs.1 a _ q (R.neL e) e') fun b o hb e1 e2 => ?_
      subst e1
      cases mo₁ <;> first | cases hb | skip
      refine hs.1 b _ (fun q2 => ?_) (R.apart b (.inr ⟨_, _, _, e⟩)).2.1 e2
      subst q2
      have := R.wf _ _ _ _ e; rw [hd] at this; cases this
  wf := fun a t₁ C fs e => by
    by_cases q : a + 1 = d
    · rw [q, Hp.put_self] at e; cases e; cases hi'
    · rw [Hp.put_ne _ _ _ q] at e
      by_cases q' : a = d
      · subst q'; have := R.wf _ _ _ _ e; rw [hd] at this; cases this
      · rw [Hp.put_ne _ _ _ q']; exact R.wf a t₁ C fs e
  apart := fun a fa => by
    refine R.apart a ?_
    rcases fa with ⟨t₁, mo₁, fa, fk⟩ | ⟨t₁, C, fs, e⟩
    · by_cases q : a = d
      · subst q; exact .of_some hd hk
      · rw [Hp.put_ne _ _ _ q] at fa; exact .of_some fa fk
    · by_cases q : a + 1 = d
      · rw [q, Hp.put_self] at e; cases e; cases hi'
      · rw [Hp.put_ne _ _ _ q] at e; exact .inr ⟨_, _, _, e⟩
  ns := by obtain ⟨m, hn, q⟩ := R.ns; exact ⟨m, hs.2 m hn, q⟩
  cel := fun x c hc => by obtain ⟨o, v, e, r⟩ := R.cel x c hc; exact ⟨o, v, hs.1 c _ (fun q => (R.apart d (.of_some hd hk)).2.2 x c hc q.symm) (R.frame.2 x c hc).2 e, r⟩
  frame := R.frame
  kl := fun a t₁ xs o e => by
    by_cases q : a = d
    · subst q; rw [Hp.put_self] at e; cases e; cases hk'
    · rw [Hp.put_ne _ _ _ q] at e; exact R.kl a t₁ xs o e
theorem Rel.updI (R : Rel prog w f ρ σ fr z s) {h' : Heap} {tk : Nat} {d C : Nat} {t t' : Nat} {fs fs' : List (Str × MV)} (hd : σ (d + 1) = some (t, .inst C fs)) (hs : Kept f.L (· = d) s.heap h')
    (x : ObjAt prog w h' (d + 1) (.inst C fs')) : Rel prog w f ρ (σ.put (d + 1) t' (.inst C fs')) fr z { s with heap := h', toks := tk } where
  same := R.same
  keep := fun a o e => let ⟨sl, e1, e2⟩ := R.keep a o e; ⟨sl, hs.1 a _ (fun q => by have := (R.apart d (.inr ⟨_, _, _, hd⟩)).1; rw [← q, e] at this; cases this) (fun q => by have := R.frame.1; rw [← q, e] at this; cases this) e1, e2⟩
  objs := fun a t₁ mo₁ e => by
    by_cases q : a = d + 1
    · subst q; rw [Hp.put_self] at e; cases e; exact x
    · rw [Hp.put_ne _ _ _ q] at e
      have hn := R.wf _ _ _ _ hd
      refine (R.objs a t₁ mo₁ e).of_same (fun o e' => hs.1 a _ (fun q2 => by subst q2; rw [hn] at e; cases e) (R.neL e) e') fun b o hb e1 e2 => ?_
      subst e1
      cases mo₁ <;> first | cases hb | skip
      exact hs.1 b _ (fun q2 => q (congrArg (· + 1) q2)) (R.apart b (.inr ⟨_, _, _, e⟩)).2.1 e2
  wf := fun a t₁ C' fs₁ e => by
    by_cases q : a = d + 1
    · subst q
      rw [Hp.put_ne _ _ _ (Nat.succ_ne_self _)] at e
      have := R.wf _ _ _ _ e; rw [hd] at this; cases this
    · rw [Hp.put_ne _ _ _ q]
      by_cases q' : a = d
      · subst q'; exact R.wf _ _ _ _ hd
      · rw [Hp.put_ne _ _ _ (fun q2 => q' (Nat.succ.inj q2))] at e; exact R.wf _ _ _ _ e
  apart := fun a fa => by
    refine R.apart a ?_
    rcases fa with ⟨t₁, mo₁, fa, fk⟩ | ⟨t₁, C, fs, e⟩
    · by_cases q : a = d + 1
      · subst q; exact .of_some hd rfl
      · rw [Hp.put_ne _ _ _ q] at fa; exact .of_some fa fk
    · by_cases q : a = d
      · subst q; exact .inr ⟨_, _, _, hd⟩
      · rw [Hp.put_ne _ _ _ (fun q2 => q (Nat.succ.inj q2))] at e; exact .inr ⟨_, _, _, e⟩
  ns := by obtain ⟨m, hn, q⟩ := R.ns; exact ⟨m, hs.2 m hn, q⟩
  cel := fun x c hc => by obtain ⟨o, v, e, r⟩ := R.cel x c hc; exact ⟨o, v, hs.1 c _ (fun q => (R.apart d (.inr ⟨_, _, _, hd⟩)).2.2 x c hc q.symm) (R.frame.2 x c hc).2 e, r⟩
  frame := R.frame
  kl := fun a t₁ xs o e => by
    by_cases q : a = d + 1
    · subst q; rw [Hp.put_self] at e; cases e
    · rw [Hp.put_ne _ _ _ q] at e; exact R.kl a t₁ xs o e
end
end Mine
open PySem PySem.W PyProof.Rows
namespace Mine
set_option genInjectivity false in
structure Cx where
  prog : Program
  w : World
  K : Frag
  p : Program
  loose : List Str
  mean : ExcName → Option Value
  mg : Str → Option Value
  mb : Str → Option Value
  glob : Str → Option MV
  meth : Nat → Str → Option Nat
  fld : Nat → Str → Bool
  init : Nat → Option Nat
  fns : Nat → Bool
def GlobAt (c : Cx) (x : Str) (v : MV) : Prop :=
  (x == ("__debug__" : Str)) = false ∧ ((∃ u, nsIn c.K mainGlobals x = some (some u) ∧ v.Is u) ∨ (nsIn c.K mainGlobals x = some none ∧ x ≠ "__name__" ∧ ∃ u, bootBuiltins x = some u ∧ v.Is u))
structure CxOk (c : Cx) : Prop where
  glob : ∀ x v, c.glob x = some v → GlobAt c x v
  meth : ∀ C x a, c.meth C x = some a → plainGet c.K C x = true ∧ findIn c.K (.ref C) x = some (some (.ref a)) ∧ isFn c.K (.ref a) = true ∧ keepIn c.K (.ref a) = true
  fld : ∀ C x, c.fld C x = true → plainGet c.K C x = true ∧ hasDictIn c.K C = true ∧ findIn c.K (.ref C) x = some none ∧ findIn c.K (.ref C) "__setattr__" = some (some (.builtin "object.__setattr__")) ∧ plainOver c.K C = true ∧ takerIn c.K C x = some none
  init : ∀ C a, c.init C = some a → makesIn c.K C = true ∧ findIn c.K (.ref C) "__init__" = some (some (.ref a)) ∧ isFn c.K (.ref a) = true ∧ keepIn c.K (.ref C) = true
  fns : ∀ a, c.fns a = true → keepIn c.K (.ref a) = true
structure Good (c : Cx) (n : Nat) (f : Fm) (fr : Nat → Option Obj) : Prop where
  ok : CxOk c
  base : ∀ a o, f.base.get? a = some o → fr a = some o
  apart : ∀ a ∈ f.slotted, f.base.get? a = none
  K : c.K.In f.base
  top : Top c.p c.loose c.mean c.mg c.mb f.base
  kind : f.env.scope.kind = .function
  globals : f.env.globals = mainGlobals
  celled : ∀ x, f.env.scope.names.lookup x = some .cell → (f.env.cells.lookup x).isSome = true
  cellk : ∀ x k, (x, k) ∈ f.env.cells → f.env.scope.names.lookup x ≠ some .local
  cellnd : (f.env.cells.map (·.2)).Nodup ∧ (f.env.cells.map (·.1)).Nodup ∧ ∀ x k, (x, k) ∈ f.env.cells → k ≠ f.env.locals
  builtins : f.env.builtins = builtinsNs
  room : f.A.depth + 2 * n < recursionLimit
  units : f.A.units + 40 * n < cLine
  frames : f.A.frames = some (f.top :: f.outer)
  topk : f.top.scope.kind = .function ∧ f.top.globals = mainGlobals ∧ f.top.builtins = builtinsNs ∧ f.top.scope.isGenerator = false ∧ f.top.scope.isCoroutine = false
  low : sysModules < f.base.objs.size
  slots : ∀ a ∈ frameAddrs (f.top :: f.outer), a = f.env.locals ∨ a ∈ f.slotted
  topL : ∃ L, f.top.frame = some L ∧ (L = f.env.locals ∨ (L ∈ f.slotted ∧ ∃ o, fr L = some o ∧ ∀ vs, o.data ≠ .fields vs)) ∧ f.base.get? L = none
  slotIn : ∀ a ∈ f.slotted, ∃ o, fr a = some o
  home : f.env.frame = f.top.frame
  outer : ∀ env ∈ f.outer, env.scope.kind ≠ .module ∧ ∃ L o, env.frame = some L ∧ L ∈ f.slotted ∧ fr L = some o ∧ ∀ vs, o.data ≠ .fields vs
abbrev Cx.M (c : Cx) : Model := model c.prog c.w
abbrev Cx.Rel (c : Cx) := Mine.Rel c.prog c.w
theorem Good.keep {c : Cx} {n : Nat} {f : Fm} {fr : Nat → Option Obj} (G : Good c n f fr) {ρ : Lo} {σ : Hp} {z s : Shared} (R : c.Rel f ρ σ fr z s) : ∀ a o, f.base.get? a = some o → s.heap.get? a = some o := fun a o e => by
  obtain ⟨sl, h1, h2⟩ := R.keep a o (G.base a o e)
  have h3 := h2 fun hm => by rw [G.apart a hm] at e; cases e
  rw [h1, h3]
theorem Good.inK {c : Cx} {n : Nat} {f : Fm} {fr : Nat → Option Obj} (G : Good c n f fr) {ρ : Lo} {σ : Hp} {z s : Shared} (R : c.Rel f ρ σ fr z s) : c.K.In s.heap := G.K.keeps (G.keep R)
theorem Good.at {c : Cx} {n : Nat} {f : Fm} {fr : Nat → Option Obj} (G : Good c n f fr) {ρ : Lo} {σ : Hp} {z s : Shared} (R : c.Rel f ρ σ fr z s) : Top c.p c.loose c.mean c.mg c.mb s.heap := G.top.keeps (G.keep R)
def Bare (h : Heap) (e : Nat) : Prop := ∃ oe vs, h.get? e = some oe ∧ oe.data = .fields vs ∧ vs[2]? = some .none
def XRel (c : Cx) (new : Bool) (f : Fm) (ρ : Lo) (σ : Hp) (fr : Nat → Option Obj) (z s : Shared) (C e : Nat) : Prop :=
  match new with
  | true => ∃ h vs, c.Rel f ρ σ fr z { s with heap := h } ∧ Heap.MadeExcOf h s.heap e (.ref C) vs
  | false => ∃ h t vs, c.Rel f ρ σ fr z { s with heap := h } ∧ Heap.FlyingW (hideAll h (frameAddrs (f.top :: f.outer))) (f.top :: f.outer) e (.ref C) (.ref t) s.heap ∧
      (hideAll h (frameAddrs (f.top :: f.outer))).get? t = none ∧ s.heap.TupAt t vs ∧ h.UpToSlots s.heap ∧ Bare s.heap e
abbrev EX := Bool → Nat → Nat → Hp → Prop
abbrev SX := Bool → Nat → Nat → Lo → Hp → Prop
def noX : EX := fun _ _ _ _ => False
def noSX : SX := fun _ _ _ _ _ => False
def XPost (c : Cx) (f : Fm) (fr : Nat → Option Obj) (z : Shared) (X : SX) : Value → Shared → Prop :=
  fun ev s' => ∃ b C e ρ' σ', ev = .ref e ∧ XRel c b f ρ' σ' fr z s' C e ∧ X b C e ρ' σ'
def EX.at (X : EX) (ρ : Lo) : SX := fun b C e ρ' σ' => ρ' = ρ ∧ X b C e σ'
set_option genInjectivity false in
structure Ix where
  n : Nat
  hn : Bool
  sc : Scope
def W {α μ : Type} (c : Cx) (i : Ix) (V : μ → α → Prop) (t : Env → Sem α) (ρ : Lo) (Q : μ → Hp → Prop) (X : EX) (σ : Hp) : Prop :=
  ∀ f fr z s, f.env.scope = i.sc → (i.hn = true → f.A.handled = none) → Good c i.n f fr → c.Rel f ρ σ fr z s →
    wpAny c.M f.A (t f.env) (fun a s' => ∃ m σ', V m a ∧ c.Rel f ρ σ' fr z s' ∧ Q m σ') (XPost c f fr z (X.at ρ)) s
inductive MF where
  | next | brk | cont | ret (v : MV)
def MF.Is : MF → Flow → Prop
  | .next, f => f = .next
  | .brk, f => f = .brk
  | .cont, f => f = .cont
  | .ret v, f => ∃ u, f = .ret u ∧ v.Is u
def S (c : Cx) (i : Ix) (t : Env → Sem Flow) (ρ : Lo) (Q : MF → Lo → Hp → Prop) (X : SX) (σ : Hp) : Prop :=
  ∀ f fr z s, f.env.scope = i.sc → (i.hn = true → f.A.handled = none) → Good c i.n f fr → c.Rel f ρ σ fr z s →
    wpAny c.M f.A (t f.env) (fun fl s' => ∃ m ρ' σ', MF.Is m fl ∧ c.Rel f ρ' σ' fr z s' ∧ Q m ρ' σ') (XPost c f fr z X) s
def WE (c : Cx) (i : Ix) (e : Expr) := W c i MV.Is (eval e)
def WT (c : Cx) (i : Ix) (e : Expr) (ρ : Lo) (Q : Bool → Hp → Prop) := W c i (· = ·) (fun env => isTrue e env (eval e env)) ρ Q
def WS (c : Cx) (i : Ix) (st : Stmt) := S c i (exec st)
def WSs (c : Cx) (i : Ix) (b : List Stmt) := S c i (execs b)
def WTr (c : Cx) (i : Ix) (m : MV) (ρ : Lo) (Q : Bool → Hp → Prop) (X : EX) (σ : Hp) := ∀ v, m.Is v → W c i (· = ·) (fun _ => truthy v) ρ Q X σ
def WB (c : Cx) (i : Ix) (op : Operator) (a b : MV) (ρ : Lo) (Q : MV → Hp → Prop) (X : EX) (σ : Hp) := ∀ v u, a.Is v → b.Is u → W c i MV.Is (fun _ => binaryOp op v u) ρ Q X σ
def WI (c : Cx) (i : Ix) (op : Operator) (a b : MV) (ρ : Lo) (Q : MV → Hp → Prop) (X : EX) (σ : Hp) := ∀ v u, a.Is v → b.Is u → W c i MV.Is (fun _ => inplaceOp op v u) ρ Q X σ
def WC (c : Cx) (i : Ix) (op : CmpOp) (a b : MV) (ρ : Lo) (Q : MV → Hp → Prop) (X : EX) (σ : Hp) := ∀ v u, a.Is v → b.Is u → W c i MV.Is (fun _ => compareOp op v u) ρ Q X σ
def WU (c : Cx) (i : Ix) (op : UnaryOp) (a : MV) (ρ : Lo) (Q : MV → Hp → Prop) (X : EX) (σ : Hp) := ∀ v, a.Is v → W c i MV.Is (fun _ => unaryOp op v) ρ Q X σ
def WGet (c : Cx) (i : Ix) (a : MV) (name : Str) (ρ : Lo) (Q : MV → Hp → Prop) (X : EX) (σ : Hp) := ∀ v, a.Is v → W c i MV.Is (fun _ => getAttr v name true) ρ Q X σ
def WSet (c : Cx) (i : Ix) (a : MV) (name : Str) (b : MV) (ρ : Lo) (Q : Unit → Hp → Prop) (X : EX) (σ : Hp) := ∀ v u, a.Is v → b.Is u → W c i (· = ·) (fun _ => setAttr v name u) ρ Q X σ
def WSub (c : Cx) (i : Ix) (value slice : Expr) (a b : MV) (ρ : Lo) (Q : MV → Hp → Prop) (X : EX) (σ : Hp) := ∀ v u, a.Is v → b.Is u → W c i MV.Is (fun _ => subscriptTail value slice v u) ρ Q X σ
def WPut (c : Cx) (i : Ix) (a k b : MV) (ρ : Lo) (Q : Unit → Hp → Prop) (X : EX) (σ : Hp) := ∀ v y u, a.Is v → k.Is y → b.Is u → W c i (· = ·) (fun _ => setItem v y u) ρ Q X σ
def WCall (c : Cx) (i : Ix) (fn : MV) (as : List MV) (ρ : Lo) (Q : MV → Hp → Prop) (X : EX) (σ : Hp) := ∀ v us, fn.Is v → All2 MV.Is as us → W c i MV.Is (fun _ => call v us) ρ Q X σ
def WEs (c : Cx) (i : Ix) (pos : Pos) (es : List Expr) := W c i (All2 MV.Is) (fun env => spliced (backTo pos (starEach es env)))
theorem wuse {α μ τ : Type} {M : Model} {A : Around} {t : Sem α} {V : μ → α → Prop} {Rl : τ → Shared → Prop} {Q : μ → τ → Prop} {E E' : Value → Shared → Prop} {Q' : α → Shared → Prop} {s : Shared}
    (h : wpAny M A t (fun a s' => ∃ m σ', V m a ∧ Rl σ' s' ∧ Q m σ') E s) (k : ∀ a s' m σ', V m a → Rl σ' s' → Q m σ' → Q' a s') (e : ∀ v s', E v s' → E' v s') : wpAny M A t Q' E' s :=
  wpAny_mono h (fun a s' x => x.elim fun m x => x.elim fun σ' x => k a s' m σ' x.1 x.2.1 x.2.2) e
theorem wuse4 {α τ υ : Type} {M : Model} {A : Around} {t : Sem α} {Rl : τ → υ → Shared → Prop} {Q : τ → υ → Prop} {E E' : Value → Shared → Prop} {Q' : α → Shared → Prop} {s : Shared}
    (h : wpAny M A t (fun _ s' => ∃ ρ' σ', Rl ρ' σ' s' ∧ Q ρ' σ') E s) (k : ∀ a s' ρ' σ', Rl ρ' σ' s' → Q ρ' σ' → Q' a s') (e : ∀ v s', E v s' → E' v s') : wpAny M A t Q' E' s :=
  wpAny_mono h (fun a s' x => x.elim fun m x => x.elim fun σ' x => k a s' m σ' x.1 x.2) e
theorem wuse6 {α μ τ υ : Type} {M : Model} {A : Around} {t : Sem α} {V : μ → α → Prop} {Rl : τ → υ → Shared → Prop} {Q : μ → τ → υ → Prop} {E E' : Value → Shared → Prop} {Q' : α → Shared → Prop} {s : Shared}
    (h : wpAny M A t (fun a s' => ∃ m ρ' σ', V m a ∧ Rl ρ' σ' s' ∧ Q m ρ' σ') E s) (k : ∀ a s' m ρ' σ', V m a → Rl ρ' σ' s' → Q m ρ' σ' → Q' a s') (e : ∀ v s', E v s' → E' v s') : wpAny M A t Q' E' s :=
  wpAny_mono h (fun a s' x => x.elim fun m x => x.elim fun ρ' x => x.elim fun σ' x => k a s' m ρ' σ' x.1 x.2.1 x.2.2) e
section
variable {α μ : Type} {c : Cx} {i : Ix} {V : μ → α → Prop} {t : Env → Sem α} {ρ : Lo} {Q Q' : μ → Hp → Prop} {X : EX} {σ : Hp}
theorem W.mono (h : W c i V t ρ Q X σ) (k : ∀ m σ', Q m σ' → Q' m σ') : W c i V t ρ Q' X σ := fun f fr z s a b g R =>
  wuse (h f fr z s a b g R) (fun _ _ m σ' v r q => ⟨m, σ', v, r, k m σ' q⟩) fun _ _ x => x
end
abbrev AttrPlain (e : Expr) (name : Str) : Prop := ∀ env t, attributeBase e name env t = t
abbrev TruthPlain (e : Expr) : Prop := ∀ env t, isTrue e env t = (do let v ← t; standAt e.pos; holding [v] (truthy v))
def noStar : Expr → Bool
  | .Starred .. => false
  | _ => true
theorem starEach_cons {e : Expr} {rest : List Expr} {env : Env} (h : noStar e = true) : starEach (e :: rest) env = (false, eval e env) :: starEach rest env := by
  cases e <;> first | rfl | cases h
theorem back_any {pos : Pos} {env : Env} : ∀ {es : List Expr}, es.all noStar = true → (backTo pos (starEach es env)).any (·.1) = false
  | [], _ => rfl
  | e :: r, h => by
    simp only [List.all_cons, Bool.and_eq_true] at h
    rw [starEach_cons h.1]
    show (false || _) = false
    rw [Bool.false_or]
    exact back_any h.2
section
variable {c : Cx} {i : Ix} {ρ : Lo} {σ : Hp}
theorem S.mono {t : Env → Sem Flow} {Q Q' : MF → Lo → Hp → Prop} {X : SX} (h : S c i t ρ Q X σ) (k : ∀ m ρ' σ', Q m ρ' σ' → Q' m ρ' σ') : S c i t ρ Q' X σ := fun f fr z s a b g R =>
  wuse6 (h f fr z s a b g R) (fun _ _ m ρ' σ' v r q => ⟨m, ρ', σ', v, r, k m ρ' σ' q⟩) fun _ _ x => x
variable {Q : MV → Hp → Prop} {X : EX}
theorem WE.none {k pos} (h : Q .none σ) : WE c i (.Constant .none k pos) ρ Q X σ := fun _ _ _ _ _ _ _ R => Constant_none ⟨.none, σ, rfl, R, h⟩
theorem WE.bool {b k pos} (h : Q (.bool b) σ) : WE c i (.Constant (.bool b) k pos) ρ Q X σ := fun _ _ _ _ _ _ _ R => Constant_bool ⟨.bool b, σ, rfl, R, h⟩
theorem WE.int {n k pos} (h : Q (.int n) σ) : WE c i (.Constant (.int n) k pos) ρ Q X σ := fun _ _ _ _ _ _ _ R => wpAny_Constant_int ⟨.int n, σ, ⟨_, rfl⟩, R.toks _, h⟩
theorem WE.str {x k pos} (h : Q (.str x) σ) : WE c i (.Constant (.str x) k pos) ρ Q X σ := fun _ _ _ _ _ _ _ R => Calls.Constant_str ⟨.str x, σ, ⟨_, rfl⟩, R.toks _, h⟩
theorem WE.binop {l op r pos} (h : WE c i l ρ (fun a σ₁ => WE c i r ρ (fun b σ₂ => WB c i op a b ρ Q X σ₂) X σ₁) X σ) : WE c i (.BinOp l op r pos) ρ Q X σ := fun f fr z s a b g R =>
  wpAny_BinOp (wuse (h f fr z s a b g R) (fun _ s₁ _ _ v₁ R₁ h₁ => wuse (h₁ f fr z s₁ a b g R₁) (fun _ s₂ _ _ v₂ R₂ h₂ => h₂ _ _ v₁ v₂ f fr z s₂ a b g R₂) fun _ _ x => x) fun _ _ x => x)
theorem WE.unary {op e pos} (h : WE c i e ρ (fun a σ₁ => WU c i op a ρ Q X σ₁) X σ) : WE c i (.UnaryOp op e pos) ρ Q X σ := fun f fr z s a b g R =>
  UnaryOp_ (wuse (h f fr z s a b g R) (fun _ s₁ _ _ v₁ R₁ h₁ => h₁ _ v₁ f fr z s₁ a b g R₁) fun _ _ x => x)
theorem WE.attr {e name pos} (hp : AttrPlain e name) (h : WE c i e ρ (fun a σ₁ => WGet c i a name ρ Q X σ₁) X σ) : WE c i (.Attribute e name pos) ρ Q X σ := fun f fr z s a b g R => by
  refine Attribute_any_ (wuse (h f fr z s a b g R) (fun _ s₁ _ _ v₁ R₁ h₁ => h₁ _ v₁ f fr z s₁ a b g R₁) fun _ _ x => x) ?_
  rw [← hp f.env (eval e f.env)]
  with_unfolding_all rfl
theorem WE.sub {v sl pos} (h : WE c i v ρ (fun a σ₁ => WE c i sl ρ (fun b σ₂ => WSub c i v sl a b ρ Q X σ₂) X σ₁) X σ) : WE c i (.Subscript v sl pos) ρ Q X σ := fun f fr z s a b g R =>
  Subscript_ (wuse (h f fr z s a b g R) (fun _ s₁ _ _ v₁ R₁ h₁ => wuse (h₁ f fr z s₁ a b g R₁) (fun _ s₂ _ _ v₂ R₂ h₂ => h₂ _ _ v₁ v₂ f fr z s₂ a b g R₂) fun _ _ x => x) fun _ _ x => x)
theorem WE.ifexp {t b o pos} (h : WT c i t ρ (fun k σ₁ => if k then WE c i b ρ Q X σ₁ else WE c i o ρ Q X σ₁) X σ) : WE c i (.IfExp t b o pos) ρ Q X σ := fun f fr z s a b' g R =>
  IfExp_ (wuse (h f fr z s a b' g R) (fun k s₁ k' _ e R₁ h₁ => by subst e; cases k' <;> exact h₁ f fr z s₁ a b' g R₁) fun _ _ x => x)
theorem WE.and1 {op e pos} (h : WE c i e ρ Q X σ) : WE c i (.BoolOp op [e] pos) ρ Q X σ := fun f fr z s a b g R => BoolOp_one (h f fr z s a b g R)
theorem WE.and {e₁ e₂ rest pos} (h : WE c i e₁ ρ (fun v σ₁ => WTr c i v ρ (fun k σ₂ => if k then WE c i (.BoolOp .And (e₂ :: rest) pos) ρ Q X σ₂ else Q v σ₂) X σ₁) X σ) : WE c i (.BoolOp .And (e₁ :: e₂ :: rest) pos) ρ Q X σ := fun f fr z s a b g R =>
  BoolOp_and (wuse (h f fr z s a b g R) (fun _ s₁ _ _ v₁ R₁ h₁ => wuse (h₁ _ v₁ f fr z s₁ a b g R₁) (fun k s₂ k' _ e R₂ h₂ => by
    subst e
    cases k' with
    | true => exact h₂ f fr z s₂ a b g R₂
    | false => exact ⟨_, _, v₁, R₂, h₂⟩) fun _ _ x => x) fun _ _ x => x)
theorem WE.cmp1 {l op r pos} (hm : behindInMarks op r = false) (h : WE c i l ρ (fun a σ₁ => WE c i r ρ (fun b σ₂ => WC c i op a b ρ Q X σ₂) X σ₁) X σ) : WE c i (.Compare l [op] [r] pos) ρ Q X σ := fun f fr z s a b g R =>
  wpAny_Compare1 (wuse (h f fr z s a b g R) (fun _ s₁ _ _ v₁ R₁ h₁ => wuse (h₁ f fr z s₁ a b g R₁) (fun _ s₂ _ _ v₂ R₂ h₂ => h₂ _ _ v₁ v₂ f fr z s₂ a b g R₂) fun _ _ x => x) fun _ _ x => x) hm
theorem WE.cmp2 {l o₁ o₂ r₁ r₂ pos} (hm : lastMarks [o₁, o₂] [r₁, r₂] = false) (h : WE c i l ρ (fun a σ₁ => WE c i r₁ ρ (fun b σ₂ => WC c i o₁ a b ρ (fun d σ₃ => WTr c i d ρ (fun k σ₄ =>
      if k then WE c i r₂ ρ (fun b' σ₅ => WC c i o₂ b b' ρ Q X σ₅) X σ₄ else Q d σ₄) X σ₃) X σ₂) X σ₁) X σ) : WE c i (.Compare l [o₁, o₂] [r₁, r₂] pos) ρ Q X σ := fun f fr z s a b g R =>
  Compare_chain (wuse (h f fr z s a b g R) (fun _ s₁ _ _ v₁ R₁ h₁ => chain_link (wuse (h₁ f fr z s₁ a b g R₁) (fun _ s₂ _ _ v₂ R₂ h₂ => wuse (h₂ _ _ v₁ v₂ f fr z s₂ a b g R₂) (fun _ s₃ _ _ v₃ R₃ h₃ =>
    wuse (h₃ _ v₃ f fr z s₃ a b g R₃) (fun k s₄ k' _ e R₄ h₄ => by
      subst e
      cases k' with
      | true => exact chain_last (wuse (h₄ f fr z s₄ a b g R₄) (fun _ s₅ _ _ v₅ R₅ h₅ => h₅ _ _ v₂ v₅ f fr z s₅ a b g R₅) fun _ _ x => x)
      | false => exact ⟨_, _, v₃, R₄, h₄⟩) fun _ _ x => x) fun _ _ x => x) fun _ _ x => x)) fun _ _ x => x) hm
end
section
variable {c : Cx} {i : Ix} {ρ : Lo} {σ : Hp} {Q : Bool → Hp → Prop} {X : EX}
theorem WT.plain {e : Expr} (hp : TruthPlain e) (h : WE c i e ρ (fun v σ₁ => WTr c i v ρ Q X σ₁) X σ) : WT c i e ρ Q X σ := fun f fr z s a b g R =>
  isTrue_plain (wuse (h f fr z s a b g R) (fun _ s₁ _ _ v₁ R₁ h₁ => h₁ _ v₁ f fr z s₁ a b g R₁) fun _ _ x => x) (hp _ _)
theorem WT.not {e pos} (h : WT c i e ρ (fun k σ₁ => Q (!k) σ₁) X σ) : WT c i (.UnaryOp .Not e pos) ρ Q X σ := fun f fr z s a b g R =>
  isTrue_not (wuse (h f fr z s a b g R) (fun _ s₁ _ _ e R₁ h₁ => ⟨_, _, congrArg _ e, R₁, h₁⟩) fun _ _ x => x)
def WA (c : Cx) (i : Ix) (op : BoolOp) (es : List Expr) (pos : Pos) (t : Env → Sem Value) (ρ : Lo) (Q : Bool → Hp → Prop) := W c i (· = ·) (fun env => isTrue (.BoolOp op es pos) env (t env)) ρ Q
theorem WA.and_nil {pos t} (h : Q true σ) : WA c i .And [] pos t ρ Q X σ := fun f fr z s a b g R => isTrue_and_nil ⟨_, _, rfl, R, h⟩
theorem WA.or_nil {pos t} (h : Q false σ) : WA c i .Or [] pos t ρ Q X σ := fun f fr z s a b g R => isTrue_or_nil ⟨_, _, rfl, R, h⟩
theorem WA.and {e rest pos t} (h : WT c i e ρ (fun k σ₁ => if k then WA c i .And rest pos t ρ Q X σ₁ else Q false σ₁) X σ) : WA c i .And (e :: rest) pos t ρ Q X σ := fun f fr z s a b g R =>
  isTrue_and (wuse (h f fr z s a b g R) (fun _ s₁ k _ e R₁ h₁ => by
    subst e
    cases k with
    | true => exact h₁ f fr z s₁ a b g R₁
    | false => exact ⟨_, _, rfl, R₁, h₁⟩) fun _ _ x => x)
theorem WA.or {e rest pos t} (h : WT c i e ρ (fun k σ₁ => if k then Q true σ₁ else WA c i .Or rest pos t ρ Q X σ₁) X σ) : WA c i .Or (e :: rest) pos t ρ Q X σ := fun f fr z s a b g R =>
  isTrue_or (wuse (h f fr z s a b g R) (fun _ s₁ k _ e R₁ h₁ => by
    subst e
    cases k with
    | false => exact h₁ f fr z s₁ a b g R₁
    | true => exact ⟨_, _, rfl, R₁, h₁⟩) fun _ _ x => x)
theorem WT.bool {op es pos} (h : WA c i op es pos (eval (.BoolOp op es pos)) ρ Q X σ) : WT c i (.BoolOp op es pos) ρ Q X σ := h
theorem WT.cmp1 {l op r pos} (hm : behindInMarks op r = false) (h : WE c i l ρ (fun a σ₁ => WE c i r ρ (fun b σ₂ => WC c i op a b ρ (fun d σ₃ => WTr c i d ρ Q X σ₃) X σ₂) X σ₁) X σ) : WT c i (.Compare l [op] [r] pos) ρ Q X σ := fun f fr z s a b g R =>
  wpAny_isTrue_Compare1 (wuse (h f fr z s a b g R) (fun _ s₁ _ _ v₁ R₁ h₁ => wuse (h₁ f fr z s₁ a b g R₁) (fun _ s₂ _ _ v₂ R₂ h₂ => wuse (h₂ _ _ v₁ v₂ f fr z s₂ a b g R₂) (fun _ s₃ _ _ v₃ R₃ h₃ => h₃ _ v₃ f fr z s₃ a b g R₃) fun _ _ x => x) fun _ _ x => x) fun _ _ x => x) hm
theorem WT.cmp2 {l o₁ o₂ r₁ r₂ pos} (hm : lastMarks [o₁, o₂] [r₁, r₂] = false) (h : WE c i l ρ (fun a σ₁ => WE c i r₁ ρ (fun b σ₂ => WC c i o₁ a b ρ (fun d σ₃ => WTr c i d ρ (fun k σ₄ =>
      if k then WE c i r₂ ρ (fun b' σ₅ => WC c i o₂ b b' ρ (fun d' σ₆ => WTr c i d' ρ Q X σ₆) X σ₅) X σ₄ else Q false σ₄) X σ₃) X σ₂) X σ₁) X σ) : WT c i (.Compare l [o₁, o₂] [r₁, r₂] pos) ρ Q X σ := fun f fr z s a b g R =>
  isTrue_chain (wuse (h f fr z s a b g R) (fun _ s₁ _ _ v₁ R₁ h₁ => test_link (wuse (h₁ f fr z s₁ a b g R₁) (fun _ s₂ _ _ v₂ R₂ h₂ => wuse (h₂ _ _ v₁ v₂ f fr z s₂ a b g R₂) (fun _ s₃ _ _ v₃ R₃ h₃ =>
    wuse (h₃ _ v₃ f fr z s₃ a b g R₃) (fun k s₄ k' _ e R₄ h₄ => by
      subst e
      cases k' with
      | true => exact test_last (wuse (h₄ f fr z s₄ a b g R₄) (fun _ s₅ _ _ v₅ R₅ h₅ => wuse (h₅ _ _ v₂ v₅ f fr z s₅ a b g R₅) (fun _ s₆ _ _ v₆ R₆ h₆ => h₆ _ v₆ f fr z s₆ a b g R₆) fun _ _ x => x) fun _ _ x => x)
      | false => exact ⟨_, _, rfl, R₄, h₄⟩) fun _ _ x => x) fun _ _ x => x) fun _ _ x => x)) fun _ _ x => x) hm
end
end Mine
open PySem PySem.W PyProof.Rows
namespace Mine
theorem mem_lookup {α : Type} {l : List (Str × α)} {x : Str} {a : α} (h : l.lookup x = some a) : (x, a) ∈ l := by
  induction l with
  | nil => cases h
  | cons p r ih =>
    obtain ⟨y, b⟩ := p
    rw [List.lookup_cons] at h
    cases hy : (x == y) with
    | true => rw [hy] at h; cases h; rw [beq_iff_eq.mp hy]; exact .head _
    | false => rw [hy] at h; exact .tail _ (ih h)
section
variable {c : Cx} {i : Ix} {ρ : Lo} {σ : Hp} {Q : MV → Hp → Prop} {X : EX}
theorem kindAt {f : Fm} {x : Str} {k : NameKind} (a : f.env.scope = i.sc) (h : i.sc.names.lookup x = some k) : f.env.kindOf x = some k := by
  show f.env.scope.names.lookup x = _; rw [a]; exact h
theorem WE.local {x pos v} (hl : i.sc.names.lookup x = some .local) (hd : (x == ("__debug__" : Str)) = false) (hv : ρ x = some v) (h : Q v σ) : WE c i (.Name x pos) ρ Q X σ := fun f fr z s a b g R => by
  obtain ⟨m, hn, hm⟩ := R.ns
  have := hm x (kindAt a hl)
  rw [hv] at this
  cases e : m x with
  | none => rw [e] at this; exact this.elim
  | some u => rw [e] at this; exact wpAny_Name (wpAny_loadName_local g.kind (kindAt a hl) hn e ⟨v, σ, this, R, h⟩) hd
theorem WE.cell {x pos v} (hl : i.sc.names.lookup x = some .cell) (hd : (x == ("__debug__" : Str)) = false) (hv : ρ x = some v) (h : Q v σ) : WE c i (.Name x pos) ρ Q X σ := fun f fr z s a b g R => by
  obtain ⟨k, hk⟩ := Option.isSome_iff_exists.mp (g.celled x (kindAt a hl))
  obtain ⟨o, u, ho, hd', hu⟩ := R.cel x k (mem_lookup hk)
  rw [hv] at hu
  cases u with
  | none => exact hu.elim
  | some u => exact wpAny_Name (wpAny_loadName_cell g.kind (kindAt a hl) hk ⟨o, ho, hd'⟩ ⟨v, σ, hu, R, h⟩) hd
theorem WE.global {x pos v} (hl : i.sc.names.lookup x = some .globalImplicit) (hv : c.glob x = some v) (h : Q v σ) : WE c i (.Name x pos) ρ Q X σ := fun f fr z s a b g R => by
  obtain ⟨hd, ⟨u, hu, is⟩ | ⟨hno, hn, u, hu, is⟩⟩ := g.ok.glob x v hv
  · refine Calls.Name_function_global g.kind (kindAt a hl) (Calls.loadGlobal_global (mg := c.mg) (v := u) (by rw [g.globals]; exact (g.at R).g) (mg_of g.K g.top.g hu) ⟨v, σ, is, R, h⟩) hd
  · refine Calls.Name_function_global g.kind (kindAt a hl) (Calls.loadGlobal_builtin (mg := c.mg) (mb := c.mb) (v := u) (by rw [g.globals]; exact (g.at R).g) (mg_none_of g.K g.top.g hno) (by rw [g.builtins]; exact (g.at R).b)
      ((g.top.builtins x hn).trans hu) ⟨v, σ, is, R, h⟩) hd
end
def Callee (c : Cx) : MV → Prop
  | .ref a => c.fns a = true ∨ (∃ C x, c.meth C x = some a) ∨ ∃ b, c.init a = some b
  | .con v => ∀ a, v ≠ .ref a
  | _ => False
theorem Callee.keeper {c : Cx} (ok : CxOk c) {fn : MV} {v : Value} {h : Heap} (K : c.K.In h) (x : Callee c fn) (is : fn.Is v) : ∃ k, (k = Keeper.frame ∨ k = Keeper.machine ∨ k = Keeper.boundFrame) ∧ Looks c.M h (keeperOf v) k := by
  cases fn with
  | ref a =>
    cases is
    rcases x with x | ⟨C, y, x⟩ | ⟨b, x⟩
    · exact keeps_K (ok.fns a x) h K
    · exact keeps_K (ok.meth C y a x).2.2.2 h K
    · exact keeps_K (ok.init a b x).2.2.2 h K
  | con u =>
    cases is
    refine ⟨.machine, .inr (.inl rfl), ?_⟩
    cases v <;> first | exact Looks.of_pure rfl | exact absurd rfl (x _)
  | _ => exact x.elim
section
variable {c : Cx} {i : Ix} {ρ : Lo} {σ : Hp} {X : EX}
theorem WEs.nil {pos} {Q : List MV → Hp → Prop} (h : Q [] σ) : WEs c i pos [] ρ Q X σ := fun f fr z s a b g R => spliced_none ⟨[], σ, .nil, R, h⟩
theorem WEs.cons {pos e es} {Q : List MV → Hp → Prop} (hs : noStar e = true) (h : WE c i e ρ (fun v σ₁ => WEs c i pos es ρ (fun vs σ₂ => Q (v :: vs) σ₂) X σ₁) X σ) : WEs c i pos (e :: es) ρ Q X σ := fun f fr z s a b g R =>
  spliced_more (wuse (h f fr z s a b g R) (fun _ s₁ _ _ v₁ R₁ h₁ => wuse (h₁ f fr z s₁ a b g R₁) (fun _ s₂ _ _ v₂ R₂ h₂ => ⟨_, _, .cons v₁ v₂, R₂, h₂⟩) fun _ _ x => x) fun _ _ x => x) (starEach_cons hs)
theorem W.callWith {pos : Pos} {fn : MV} {v : Value} {first : List MV} {us : List Value} {es : List Expr} {Q : MV → Hp → Prop} (ic : Callee c fn) (iv : fn.Is v) (iu : All2 MV.Is first us) (hs : es.all noStar = true)
    (h : WEs c i pos es ρ (fun vs σ₁ => WCall c i fn (first ++ vs) ρ Q X σ₁) X σ) : W c i MV.Is (fun env => callWith pos v us (backTo pos (starEach es env)) []) ρ Q X σ := fun f fr z s a b g R => by
  refine callWith_of (P := fun h => c.K.In h) ?_ (fun h K => ic.keeper g.ok K iv) ?_
  · rw [back_any hs]; rfl
  · cases es with
    | nil =>
      refine evalArgs_nil3 ?_
      obtain h := h f fr z s a b g R
      refine ⟨g.inK R, ?_⟩
      have h := h
      have key : wpAny c.M f.A (spliced (backTo pos (starEach [] f.env))) (fun vs s₁ => vs = [] → s₁ = s → wpAny c.M f.A (call v (us ++ [])) (fun a s' => ∃ m σ', MV.Is m a ∧ c.Rel f ρ σ' fr z s' ∧ Q m σ') (XPost c f fr z (X.at ρ)) s) (XPost c f fr z (X.at ρ)) s := by
        refine wpAny_mono h (fun vs s₁ ⟨ms, σ₁, iv', R₁, h₁⟩ e1 e2 => ?_) fun _ _ x => x
        subst e1 e2
        cases iv'
        exact h₁ _ _ iv (iu.append .nil) f fr z _ a b g R₁
      intro Γ p hΓ
      exact key Γ p hΓ rfl rfl Γ p hΓ
    | cons e es =>
      have hs' := hs
      simp only [List.all_cons, Bool.and_eq_true] at hs'
      have h := h f fr z s a b g R
      dsimp only at h
      rw [starEach_cons hs'.1] at h ⊢
      refine Calls.evalArgs_plain (wpAny_mono h (fun vs s₁ ⟨ms, σ₁, iv', R₁, h₁⟩ => ⟨g.inK R₁, h₁ _ _ iv (iu.append iv') f fr z s₁ a b g R₁⟩) fun _ _ x => x)
theorem WE.call {fe es pos} {Q : MV → Hp → Prop} (hf : (match fe with | .Attribute .. => false | _ => true) = true) (hs : es.all noStar = true)
    (h : WE c i fe ρ (fun fn σ₁ => Callee c fn ∧ WEs c i pos es ρ (fun vs σ₂ => WCall c i fn vs ρ Q X σ₂) X σ₁) X σ) : WE c i (.Call fe es [] pos) ρ Q X σ := fun f fr z s a b g R =>
  Call_ (wpAny_mono (h f fr z s a b g R) (fun _ s₁ ⟨fn, _, v₁, R₁, ic, h₁⟩ => W.callWith (first := []) ic v₁ .nil hs h₁ f fr z s₁ a b g R₁) fun _ _ x => x) (by cases fe <;> first | rfl | cases hf)
end
theorem eval_method {o : Expr} {name : Str} {apos pos : Pos} {es : List Expr} {env : Env} (hp : AttrPlain o name) (hs : es.all noStar = true) (hl : decide (es.length < 30) = true) (hpos : (apos.endLine == pos.line) = true) :
    eval (.Call (.Attribute o name apos) es [] pos) env = (do
      let ov ← eval o env
      standAt apos.atName
      let (f, first) ← holding [ov] (getMethod ov name (do return (← importBound o env).getD true))
      callWith pos f first (backTo pos (starEach es env)) []) := by
  have h1 : methodCallForm (es.length + 0) (backTo pos (starEach es env)) [] = true := by
    unfold methodCallForm
    have : (backTo pos (starEach es env)).all (fun x => !x.1) = true := by
      have h := back_any (pos := pos) (env := env) hs
      rw [List.all_eq_not_any_not]
      simp only [Bool.not_not]
      rw [h]; rfl
    rw [this]
    simp only [List.all_nil, List.isEmpty_nil, if_true, Bool.and_self, Bool.true_and]
    simpa using of_decide_eq_true hl
  have e0 : eval (.Call (.Attribute o name apos) es [] pos) env = (do
      let ov ← attributeBase o name env (eval o env)
      standAt apos.atName
      methodCall o name apos pos env ov (es.length + 0) (backTo pos (starEach es env)) []) := by with_unfolding_all rfl
  rw [e0, hp]
  unfold methodCall
  rw [h1]
  have h2 : methodCallPos true o env apos pos = pure pos := by unfold methodCallPos; rw [hpos]; rfl
  rw [h2]
  rfl
def PairIs (x : MV × List MV) (y : Value × List Value) : Prop := x.1.Is y.1 ∧ All2 MV.Is x.2 y.2
def WM (c : Cx) (i : Ix) (ov : MV) (name : Str) (ρ : Lo) (Q : MV × List MV → Hp → Prop) (X : EX) (σ : Hp) := ∀ v pl, ov.Is v → W c i PairIs (fun _ => getMethod v name pl) ρ Q X σ
section
variable {c : Cx} {i : Ix} {ρ : Lo} {σ : Hp} {X : EX}
theorem WE.method {o name apos es pos} {Q : MV → Hp → Prop} (hp : AttrPlain o name) (hs : es.all noStar = true) (hl : decide (es.length < 30) = true) (hpos : (apos.endLine == pos.line) = true)
    (h : WE c i o ρ (fun ov σ₁ => WM c i ov name ρ (fun fx σ₂ => Callee c fx.1 ∧ WEs c i pos es ρ (fun vs σ₃ => WCall c i fx.1 (fx.2 ++ vs) ρ Q X σ₃) X σ₂) X σ₁) X σ) : WE c i (.Call (.Attribute o name apos) es [] pos) ρ Q X σ := fun f fr z s a b g R =>
  MethodCall_ (wpAny_mono (h f fr z s a b g R) (fun _ s₁ ⟨_, _, v₁, R₁, h₁⟩ => wpAny_mono (h₁ _ _ v₁ f fr z s₁ a b g R₁) (fun fx s₂ ⟨_, _, v₂, R₂, ic, h₂⟩ => W.callWith ic v₂.1 v₂.2 hs h₂ f fr z s₂ a b g R₂) fun _ _ x => x) fun _ _ x => x) (eval_method hp hs hl hpos)
end
def WSt (c : Cx) (i : Ix) (x : Str) (v : MV) (ρ : Lo) (Q : Lo → Hp → Prop) (X : SX) (σ : Hp) : Prop :=
  ∀ u, v.Is u → ∀ f fr z s, f.env.scope = i.sc → (i.hn = true → f.A.handled = none) → Good c i.n f fr → c.Rel f ρ σ fr z s →
    wpAny c.M f.A (storeName f.env x u) (fun _ s' => ∃ ρ' σ', c.Rel f ρ' σ' fr z s' ∧ Q ρ' σ') (XPost c f fr z X) s
theorem Rel.putLocal {c : Cx} {f : Fm} {ρ : Lo} {σ : Hp} {fr : Nat → Option Obj} {z s : Shared} (R : c.Rel f ρ σ fr z s) {x : Str} {v : MV} {u : Value} (is : v.Is u) {m : Str → Option Value} {h' : Heap} {tk : Nat}
    (hm : ∀ y, f.env.scope.names.lookup y = some .local → OptIs (ρ y) (m y)) (hn : h'.Ns f.env.locals (fun y => if y = x then some u else m y)) (hs : Heap.SameBut f.env.locals s.heap h')
    (hx : f.env.scope.names.lookup x = some .local) (hc : ∀ k, (x, k) ∉ f.env.cells) (hcl : ∀ y k, (y, k) ∈ f.env.cells → k ≠ f.env.locals) : c.Rel f (ρ.put x v) σ fr z { s with heap := h', toks := tk } where
  same := R.same
  keep := fun a o e => let ⟨sl, e1, e2⟩ := R.keep a o e; ⟨sl, (hs.2 a fun q => by have := R.frame.1; rw [show f.L = a from q.symm, e] at this; cases this).trans e1, e2⟩
  objs := fun a t mo e => (R.objs a t mo e).of_same (fun o e' => (hs.2 a (R.neL e)).trans e') fun d o hi ed e' => (hs.2 d (by
    subst ed
    cases mo <;> first | cases hi | skip
    exact (R.apart d (.inr ⟨_, _, _, e⟩)).2.1)).trans e'
  wf := R.wf
  apart := R.apart
  ns := ⟨_, hn, fun y hy => by
    by_cases q : y = x
    · subst q; simp only [Lo.put, if_true]; exact is
    · simp only [Lo.put, if_neg q]; exact hm y hy⟩
  cel := fun y k hk => by
    obtain ⟨o, v', e, d, r⟩ := R.cel y k hk
    refine ⟨o, v', (hs.2 k (hcl y k hk)).trans e, d, ?_⟩
    have : y ≠ x := fun q => hc k (q ▸ hk)
    simp only [Lo.put, if_neg this]; exact r
  frame := R.frame
  kl := R.kl
theorem Rel.putCell {c : Cx} {f : Fm} {ρ : Lo} {σ : Hp} {fr : Nat → Option Obj} {z s : Shared} (R : c.Rel f ρ σ fr z s) {x : Str} {v : MV} {u : Value} (is : v.Is u) {h' : Heap} {tk : Nat} {k : Nat}
    (hk : (x, k) ∈ f.env.cells) (hi : h'.IsCell k (some u)) (hs : Heap.SameBut k s.heap h') (hx : f.env.scope.names.lookup x ≠ some .local) (hnd : (f.env.cells.map (·.2)).Nodup ∧ (f.env.cells.map (·.1)).Nodup ∧ ∀ x k, (x, k) ∈ f.env.cells → k ≠ f.env.locals) : c.Rel f (ρ.put x v) σ fr z { s with heap := h', toks := tk } where
  same := R.same
  keep := fun a o e => let ⟨sl, e1, e2⟩ := R.keep a o e; ⟨sl, (hs.2 a fun q => by have := (R.frame.2 x k hk).1; rw [← q, e] at this; cases this).trans e1, e2⟩
  objs := fun a t mo e => (R.objs a t mo e).of_same (fun o e' => (hs.2 a (R.neC e hk)).trans e') fun d o hi ed e' => (hs.2 d (by
    subst ed
    cases mo <;> first | cases hi | skip
    exact (R.apart d (.inr ⟨_, _, _, e⟩)).2.2 x k hk)).trans e'
  wf := R.wf
  apart := R.apart
  ns := by
    obtain ⟨m, hn, hm⟩ := R.ns
    refine ⟨m, hn.sameBut hs (Ne.symm (hnd.2.2 x k hk)), fun y hy => ?_⟩
    have : y ≠ x := fun q => hx (q ▸ hy)
    simp only [Lo.put, if_neg this]; exact hm y hy
  cel := fun y k' hk' => by
    by_cases q : y = x
    · subst q
      have : k' = k := by
        have h1 := hnd.2.1
        have : ∀ (l : List (Str × Nat)), (l.map (·.1)).Nodup → (y, k') ∈ l → (y, k) ∈ l → k' = k := by
          intro l
          induction l with
          | nil => intro _ h; cases h
          | cons p r ih =>
            intro hn ha hb
            simp only [List.map_cons, List.nodup_cons] at hn
            rcases List.mem_cons.mp ha with ha | ha <;> rcases List.mem_cons.mp hb with hb | hb
            · rw [← ha] at hb; cases hb; rfl
            · exact absurd (List.mem_map.mpr ⟨_, hb, by rw [← ha]⟩) hn.1
            · exact absurd (List.mem_map.mpr ⟨_, ha, by rw [← hb]⟩) hn.1
            · exact ih hn.2 ha hb
        exact this _ h1 hk' hk
      subst this
      obtain ⟨o, ho, hd⟩ := hi
      exact ⟨o, some u, ho, hd, by simp only [Lo.put, if_true]; exact is⟩
    · obtain ⟨o, v', e, d, r⟩ := R.cel y k' hk'
      have hne : k' ≠ k := fun q2 => by
        subst q2
        have h1 := hnd.1
        have : ∀ (l : List (Str × Nat)), (l.map (·.2)).Nodup → (y, k') ∈ l → (x, k') ∈ l → y = x := by
          intro l
          induction l with
          | nil => intro _ h; cases h
          | cons p r ih =>
            intro hn ha hb
            simp only [List.map_cons, List.nodup_cons] at hn
            rcases List.mem_cons.mp ha with ha | ha <;> rcases List.mem_cons.mp hb with hb | hb
            · rw [← ha] at hb; cases hb; rfl
            · exact absurd (List.mem_map.mpr ⟨_, hb, by rw [← ha]⟩) hn.1
            · exact absurd (List.mem_map.mpr ⟨_, ha, by rw [← hb]⟩) hn.1
            · exact ih hn.2 ha hb
        exact q (this _ h1 hk' hk)
      refine ⟨o, v', (hs.2 k' hne).trans e, d, ?_⟩
      simp only [Lo.put, if_neg q]; exact r
  frame := R.frame
  kl := R.kl
section
variable {c : Cx} {i : Ix} {ρ : Lo} {σ : Hp} {X : SX}
theorem WSt.local {x v} {Q : Lo → Hp → Prop} (hl : i.sc.names.lookup x = some .local) (h : Q (ρ.put x v) σ) : WSt c i x v ρ Q X σ := fun u is f fr z s a b g R => by
  obtain ⟨m, hn, hm⟩ := R.ns
  refine wpAny_storeName_local (kindAt a hl) hn (fun h' hn' hs' => ⟨_, _, R.putLocal is hm hn' hs' (kindAt a hl) (fun k hk => g.cellk x k hk (kindAt a hl)) (fun y k hk => g.cellnd.2.2 y k hk), h⟩) ?_
  rw [g.kind]; rfl
theorem WSt.cell {x v} {Q : Lo → Hp → Prop} (hl : i.sc.names.lookup x = some .cell) (h : Q (ρ.put x v) σ) : WSt c i x v ρ Q X σ := fun u is f fr z s a b g R => by
  obtain ⟨k, hk⟩ := Option.isSome_iff_exists.mp (g.celled x (kindAt a hl))
  obtain ⟨o, w, ho, hd', hu⟩ := R.cel x k (mem_lookup hk)
  refine wpAny_storeName_cell g.kind (kindAt a hl) hk ⟨o, ho, hd'⟩ fun h' hi hs => ⟨_, _, R.putCell is (mem_lookup hk) hi hs (by rw [show f.env.scope.names.lookup x = some .cell from kindAt a hl]; intro q; cases q) g.cellnd, h⟩
abbrev NoComp (e : Expr) : Prop := ∀ t n env, swapsWith e t n env = pure false
theorem Ex.at {f : Fm} {fr : Nat → Option Obj} {z : Shared} {X : SX} {ρ : Lo} {v : Value} {s : Shared} (h : XPost c f fr z (EX.at (fun b C e σ' => X b C e ρ σ') ρ) v s) : XPost c f fr z X v s := by
  obtain ⟨b, C, e, ρ', σ', rfl, r, rfl, q⟩ := h
  exact ⟨b, C, e, _, σ', rfl, r, q⟩
variable {Q : MF → Lo → Hp → Prop}
abbrev SX.ex (X : SX) (ρ : Lo) : EX := fun b C e σ' => X b C e ρ σ'
theorem WSs.nil (h : Q .next ρ σ) : WSs c i [] ρ Q X σ := fun f fr z s a b g R => wpAny_execs_nil ⟨.next, ρ, σ, rfl, R, h⟩
theorem WSs.cons {st rest} (h : WS c i st ρ (fun m ρ₁ σ₁ => match m with | .next => WSs c i rest ρ₁ Q X σ₁ | m => Q m ρ₁ σ₁) X σ) : WSs c i (st :: rest) ρ Q X σ := fun f fr z s a b g R =>
  wpAny_execs_cons (wuse6 (h f fr z s a b g R) (fun fl s₁ m ρ₁ σ₁ is R₁ h₁ => by
    cases m with
    | next => cases is; exact h₁ f fr z s₁ a b g R₁
    | brk => cases is; exact ⟨.brk, ρ₁, σ₁, rfl, R₁, h₁⟩
    | cont => cases is; exact ⟨.cont, ρ₁, σ₁, rfl, R₁, h₁⟩
    | ret v => obtain ⟨u, rfl, is⟩ := is; exact ⟨.ret v, ρ₁, σ₁, ⟨u, rfl, is⟩, R₁, h₁⟩) fun _ _ x => x)
theorem WS.expr {e pos} (hi : NoComp e) (h : WE c i e ρ (fun v σ₁ => Q .next ρ σ₁) (X.ex ρ) σ) : WS c i (.Expr e pos) ρ Q X σ := fun f fr z s a b g R =>
  wpAny_Expr_any (wuse (h f fr z s a b g R) (fun _ s₁ _ σ₁ _ R₁ h₁ => ⟨.next, ρ, σ₁, rfl, R₁, h₁⟩) fun _ _ x => Ex.at x) (by
    show (f.env.scope.kind == .module && _) = false
    rw [g.kind]; rfl) (hi _ _ _)
theorem WS.ret {e pos} (h : WE c i e ρ (fun v σ₁ => Q (.ret v) ρ σ₁) (X.ex ρ) σ) : WS c i (.Return (some e) pos) ρ Q X σ := fun f fr z s a b g R =>
  wpAny_Return_some (wuse (h f fr z s a b g R) (fun u s₁ v σ₁ is R₁ h₁ => ⟨.ret v, ρ, σ₁, ⟨u, rfl, is⟩, R₁, h₁⟩) fun _ _ x => Ex.at x)
theorem WS.assign {x xp e pos} (hi : NoComp e) (h : WE c i e ρ (fun v σ₁ => WSt c i x v ρ (fun ρ₂ σ₂ => Q .next ρ₂ σ₂) X σ₁) (X.ex ρ) σ) : WS c i (.Assign [.Name x xp] e pos) ρ Q X σ := fun f fr z s a b g R =>
  wpAny_Assign_Name (wuse (h f fr z s a b g R) (fun u s₁ v σ₁ is R₁ h₁ => wuse4 (h₁ u is f fr z s₁ a b g R₁) (fun _ s₂ ρ₂ σ₂ R₂ h₂ => ⟨.next, ρ₂, σ₂, rfl, R₂, h₂⟩) fun _ _ x => x) fun _ _ x => Ex.at x) (hi _ _ _)
theorem WS.setAttr {o name op e pos} (hi : NoComp e) (h : WE c i e ρ (fun v σ₁ => WE c i o ρ (fun ov σ₂ => WSet c i ov name v ρ (fun _ σ₃ => Q .next ρ σ₃) (X.ex ρ) σ₂) (X.ex ρ) σ₁) (X.ex ρ) σ) : WS c i (.Assign [.Attribute o name op] e pos) ρ Q X σ := fun f fr z s a b g R =>
  plainObj_wpAny_Assign_Attribute (wuse (h f fr z s a b g R) (fun u s₁ v σ₁ is R₁ h₁ => wuse (h₁ f fr z s₁ a b g R₁) (fun u₂ s₂ v₂ σ₂ is₂ R₂ h₂ => wpAny_mono (h₂ _ _ is₂ is f fr z s₂ a b g R₂)
    (fun _ s₃ ⟨_, σ₃, _, R₃, h₃⟩ => ⟨.next, ρ, σ₃, rfl, R₃, h₃⟩) fun _ _ x => Ex.at x) fun _ _ x => Ex.at x) fun _ _ x => Ex.at x) (hi _ _ _)
theorem WS.setItem {o k op e pos} (hi : NoComp e) (h : WE c i e ρ (fun v σ₁ => WE c i o ρ (fun ov σ₂ => WE c i k ρ (fun kv σ₃ => WPut c i ov kv v ρ (fun _ σ₄ => Q .next ρ σ₄) (X.ex ρ) σ₃) (X.ex ρ) σ₂) (X.ex ρ) σ₁) (X.ex ρ) σ) :
    WS c i (.Assign [.Subscript o k op] e pos) ρ Q X σ := fun f fr z s a b g R =>
  wpAny_Assign_Subscript (wuse (h f fr z s a b g R) (fun u s₁ v σ₁ is R₁ h₁ => wuse (h₁ f fr z s₁ a b g R₁) (fun u₂ s₂ v₂ σ₂ is₂ R₂ h₂ => wuse (h₂ f fr z s₂ a b g R₂) (fun u₃ s₃ v₃ σ₃ is₃ R₃ h₃ =>
    wuse (h₃ _ _ _ is₂ is₃ is f fr z s₃ a b g R₃) (fun _ s₄ _ σ₄ _ R₄ h₄ => ⟨.next, ρ, σ₄, rfl, R₄, h₄⟩) fun _ _ x => Ex.at x) fun _ _ x => Ex.at x) fun _ _ x => Ex.at x) fun _ _ x => Ex.at x) (hi _ _ _)
theorem WS.augAttr {o name tp op e pos} (h : WE c i o ρ (fun ov σ₁ => WGet c i ov name ρ (fun old σ₂ => WE c i e ρ (fun v σ₃ => WI c i op old v ρ (fun n σ₄ => WSet c i ov name n ρ (fun _ σ₅ => Q .next ρ σ₅) (X.ex ρ) σ₄) (X.ex ρ) σ₃) (X.ex ρ) σ₂) (X.ex ρ) σ₁) (X.ex ρ) σ) :
    WS c i (.AugAssign (.Attribute o name tp) op e pos) ρ Q X σ := fun f fr z s a b g R =>
  wpAny_AugAssign_AttributeAny (wuse (h f fr z s a b g R) (fun u s₁ v σ₁ is R₁ h₁ => wuse (h₁ _ is f fr z s₁ a b g R₁) (fun u₂ s₂ v₂ σ₂ is₂ R₂ h₂ => wuse (h₂ f fr z s₂ a b g R₂) (fun u₃ s₃ v₃ σ₃ is₃ R₃ h₃ =>
    wuse (h₃ _ _ is₂ is₃ f fr z s₃ a b g R₃) (fun u₄ s₄ _ σ₄ is₄ R₄ h₄ => wuse (h₄ _ _ is is₄ f fr z s₄ a b g R₄) (fun _ s₅ _ σ₅ _ R₅ h₅ => ⟨.next, ρ, σ₅, rfl, R₅, h₅⟩) fun _ _ x => Ex.at x) fun _ _ x => Ex.at x) fun _ _ x => Ex.at x) fun _ _ x => Ex.at x) fun _ _ x => Ex.at x)
theorem WS.ite {t b o pos} (h : WT c i t ρ (fun k σ₁ => if k then WSs c i b ρ Q X σ₁ else WSs c i o ρ Q X σ₁) (X.ex ρ) σ) : WS c i (.If t b o pos) ρ Q X σ := fun f fr z s a b' g R =>
  wpAny_If (wuse (h f fr z s a b' g R) (fun k s₁ k' σ₁ e R₁ h₁ => by subst e; cases k' <;> exact h₁ f fr z s₁ a b' g R₁) fun _ _ x => Ex.at x)
end
end Mine
open PySem PySem.W PyProof.Rows
namespace Mine
def bindLo : List Str → List MV → Lo → Lo
  | p :: ps, a :: as, ρ => bindLo ps as (ρ.put p a)
  | _, _, ρ => ρ
def scopeOk (scope : Scope) (ps : List Str) : Bool :=
  scope.kind == .function && !scope.isCoroutine && !scope.isGenerator &&
  ps.all (fun x => scope.names.lookup x == some .local || scope.names.lookup x == some .cell) &&
  (cellsFrom 0 scope.names []).all (fun p => scope.names.lookup p.1 != some .local) && decide ((cellsFrom 0 scope.names []).map (·.1)).Nodup
theorem bindLo_local {kind : Str → Option NameKind} {x : Str} (hx : kind x = some .local) : ∀ {ps : List Str} {as : List MV} {us : List Value} {ρ : Lo} {m : Str → Option Value}, All2 MV.Is as us → OptIs (ρ x) (m x) → OptIs (bindLo ps as ρ x) (bindL kind (ps.zip us) m x)
  | [], as, us, ρ, m, _, h => by simpa [bindLo, bindL] using h
  | p :: ps, [], us, ρ, m, hh, h => by cases hh; simpa [bindLo, bindL] using h
  | p :: ps, a :: as, _, ρ, m, .cons r rs, h => by
    simp only [bindLo, List.zip_cons_cons, bindL]
    refine bindLo_local hx rs ?_
    by_cases q : x = p
    · subst q; simp only [Lo.put, if_true, hx]; exact r
    · by_cases k : kind p = some .local
      · simp only [Lo.put, if_neg q, if_pos k]; exact h
      · simp only [Lo.put, if_neg q, if_neg k]; exact h
theorem bindLo_cell {kind : Str → Option NameKind} {x : Str} (hx : kind x ≠ some .local) : ∀ {ps : List Str} {as : List MV} {us : List Value} {ρ : Lo} {m : Str → Option Value}, All2 MV.Is as us → OptIs (ρ x) (m x) → OptIs (bindLo ps as ρ x) (bindC kind (ps.zip us) m x)
  | [], as, us, ρ, m, _, h => by simpa [bindLo, bindC] using h
  | p :: ps, [], us, ρ, m, hh, h => by cases hh; simpa [bindLo, bindC] using h
  | p :: ps, a :: as, _, ρ, m, .cons r rs, h => by
    simp only [bindLo, List.zip_cons_cons, bindC]
    refine bindLo_cell hx rs ?_
    by_cases q : x = p
    · subst q; simp only [Lo.put, if_true, if_neg hx]; exact r
    · by_cases k : kind p = some .local
      · simp only [Lo.put, if_neg q, if_pos k]; exact h
      · simp only [Lo.put, if_neg q, if_neg k]; exact h
def MF.val : MF → MV
  | .ret v => v
  | _ => .none
theorem cellsFrom_lt : ∀ (names : List (Str × NameKind)) (n : Nat) (acc : List (Str × Nat)), (∀ p ∈ acc, p.2 < n) → (acc.map (·.2)).Nodup → ((cellsFrom n names acc).map (·.2)).Nodup
  | [], n, acc, _, h => h
  | (y, k) :: r, n, acc, ha, h => by
    unfold cellsFrom
    by_cases hk : (k == .cell) = true
    · rw [if_pos hk]
      refine cellsFrom_lt r (n + 1) ((y, n) :: acc) (fun p hp => ?_) ?_
      · rcases List.mem_cons.mp hp with rfl | hp
        · exact Nat.lt_succ_self _
        · exact Nat.lt_succ_of_lt (ha p hp)
      · simp only [List.map_cons, List.nodup_cons]
        refine ⟨fun hm => ?_, h⟩
        obtain ⟨p, hp, e⟩ := List.mem_map.mp hm
        have := ha p hp
        omega
    · rw [if_neg hk]; exact cellsFrom_lt r n acc ha h
open Classical in
noncomputable def restOf (σ : Hp) (s : Shared) : Nat → Option Obj := fun a => if Foot σ a then none else s.heap.get? a
theorem Good.frame_in {c : Cx} {n : Nat} {f : Fm} {fr : Nat → Option Obj} (g : Good c n f fr) {ρ : Lo} {σ : Hp} {z s : Shared} (R : c.Rel f ρ σ fr z s) : ∀ env ∈ f.top :: f.outer, env.scope.kind ≠ .module ∧ ∃ L o, env.frame = some L ∧ restOf σ s L = some o ∧ (∀ vs, o.data ≠ .fields vs) ∧ f.base.get? L = none := by
  intro env he
  rcases List.mem_cons.mp he with rfl | he
  · refine ⟨by rw [g.topk.1]; (intro q; cases q), ?_⟩
    obtain ⟨L, hL, h, hb⟩ := g.topL
    rcases h with rfl | ⟨hs, o, ho, hd⟩
    · obtain ⟨m, ⟨o, es, ep, h1, h2, _⟩, _⟩ := R.ns
      refine ⟨_, o, hL, ?_, fun vs e => (by rw [h2] at e; cases e), hb⟩
      unfold restOf
      rw [if_neg fun hf => (R.apart _ hf).2.1 rfl]; exact h1
    · obtain ⟨sl, h1, _⟩ := R.keep L o ho
      refine ⟨L, { o with slots := sl }, hL, ?_, hd, hb⟩
      unfold restOf
      rw [if_neg fun hf => by have := (R.apart _ hf).1; rw [ho] at this; cases this]; exact h1
  · obtain ⟨hk, L, o, hL, hs, ho, hd⟩ := g.outer env he
    obtain ⟨sl, h1, _⟩ := R.keep L o ho
    refine ⟨hk, L, { o with slots := sl }, hL, ?_, hd, g.apart L hs⟩
    unfold restOf
    rw [if_neg fun hf => by have := (R.apart _ hf).1; rw [ho] at this; cases this]; exact h1
def newFm (f : Fm) (qual : Str) (scope : Scope) (L fa : Nat) (cd : Value) : Fm where
  A := f.A.deeper (envOfC qual scope L fa cd)
  env := envOfC qual scope L fa cd
  top := envOfC qual scope L fa cd
  outer := f.top :: f.outer
  slotted := frameAddrs (f.top :: f.outer)
  base := f.base
theorem Rel.back {c : Cx} {n : Nat} {f f' : Fm} {fr : Nat → Option Obj} (g : Good c n f fr) {ρ ρ' : Lo} {σ σ' : Hp} {z s s' : Shared} (R : c.Rel f ρ σ fr z s) (hs : f'.slotted = frameAddrs (f.top :: f.outer)) (hbs : f'.base = f.base) (R' : c.Rel f' ρ' σ' (restOf σ s) z s') : c.Rel f ρ σ' fr z s' := by
  have rest : ∀ {a : Nat} {o : Obj}, ¬ Foot σ a → s.heap.get? a = some o → restOf σ s a = some o := fun h e => by unfold restOf; rw [if_neg h]; exact e
  have nf : ∀ {a : Nat} {o : Obj}, fr a = some o → ¬ Foot σ a := fun e h => by have := (R.apart _ h).1; rw [e] at this; cases this
  have nL : ¬ Foot σ f.env.locals := fun h => (R.apart _ h).2.1 rfl
  have nC : ∀ {x k}, (x, k) ∈ f.env.cells → ¬ Foot σ k := fun hk h => (R.apart _ h).2.2 _ _ hk rfl
  obtain ⟨m, ⟨oL, es, ep, h1, h2⟩, hm⟩ := R.ns
  refine ⟨R'.same, fun a o e => ?_, R'.objs, R'.wf, fun a hf => ⟨?_, ?_, fun x k hk => ?_⟩, ?_, fun x k hk => ?_, R.frame, fun a t xs o e => hbs ▸ R'.kl a t xs o e⟩
  · obtain ⟨sl, e1, e2⟩ := R.keep a o e
    obtain ⟨sl', e3, e4⟩ := R'.keep a _ (rest (nf e) e1)
    refine ⟨sl', e3, fun ha => ?_⟩
    rw [e4 fun hm => ?_, ← e2 ha]
    rw [hs] at hm
    rcases g.slots a hm with rfl | h
    · have := R.frame.1; rw [show fr f.L = fr f.env.locals from rfl, e] at this; cases this
    · exact ha h
  · cases e : fr a with
    | none => rfl
    | some o =>
      obtain ⟨sl, e1, _⟩ := R.keep a o e
      have := (R'.apart a hf).1
      rw [rest (nf e) e1] at this; cases this
  · intro q
    have := (R'.apart a hf).1
    rw [q, rest nL h1] at this; cases this
  · intro q
    obtain ⟨o, v, e1, _⟩ := R.cel x k hk
    have := (R'.apart a hf).1
    rw [q, rest (nC hk) e1] at this; cases this
  · obtain ⟨sl, e1, _⟩ := R'.keep _ _ (rest nL h1)
    exact ⟨m, ⟨_, es, ep, e1, h2⟩, hm⟩
  · obtain ⟨o, v, e1, d, r⟩ := R.cel x k hk
    obtain ⟨sl, e2, _⟩ := R'.keep _ _ (rest (nC hk) e1)
    exact ⟨_, v, e2, d, r⟩
theorem scopeOk_of {scope : Scope} {ps : List Str} (h : scopeOk scope ps = true) : scope.kind = .function ∧ scope.isCoroutine = false ∧ scope.isGenerator = false ∧ (∀ x ∈ ps, scope.names.lookup x = some .local ∨ scope.names.lookup x = some .cell) ∧
    (∀ p ∈ cellsFrom 0 scope.names [], scope.names.lookup p.1 ≠ some .local) ∧ ((cellsFrom 0 scope.names []).map (·.1)).Nodup := by
  simp only [scopeOk, Bool.and_eq_true, beq_iff_eq, Bool.not_eq_true', List.all_eq_true, Bool.or_eq_true, bne_iff_ne, ne_eq, decide_eq_true_eq] at h
  obtain ⟨⟨⟨⟨⟨a, b⟩, c⟩, d⟩, e⟩, f⟩ := h
  exact ⟨a, b, c, d, e, f⟩
structure FnAt (c : Cx) (a : Nat) (ps : List Str) (body : List Stmt) (scope : Scope) : Prop where
  at_ : ∃ oc od osl name qual params dV kV doc pm an cdv ct, c.K.lookup a = some ⟨oc, od, .func (fnX name qual params body scope [] dV kV doc pm an cdv ct), osl⟩ ∧ codeIn c.K cdv qual = true ∧
    ∀ us : List Value, us.length = ps.length → bindArgs (fnX name qual params body scope [] dV kV doc pm an cdv ct) ⟨us, []⟩ = pure (ps.zip us)
  scope : scopeOk scope ps = true
theorem newFm_good {c : Cx} {n : Nat} {f : Fm} {fr : Nat → Option Obj} (g : Good c (n + 1) f fr) {ρ : Lo} {σ : Hp} {z s : Shared} (R : c.Rel f ρ σ fr z s) {qual : Str} {scope : Scope} {fa : Nat} {cd : Value} {ps : List Str} (hs : scopeOk scope ps = true) :
    Good c n (newFm f qual scope s.heap.objs.size fa cd) (restOf σ s) := by
  obtain ⟨hk, hco, hgen, hps, hcl, hnd⟩ := scopeOk_of hs
  have nm := cellsFrom_names scope.names 0 (s.heap.objs.size + 1) [] [] rfl
  have cellk : ∀ x k, (x, k) ∈ cellsFrom (s.heap.objs.size + 1) scope.names [] → scope.names.lookup x ≠ some .local := fun x k hx => by
    have : x ∈ (cellsFrom 0 scope.names []).map (·.1) := by rw [nm]; exact List.mem_map.mpr ⟨_, hx, rfl⟩
    obtain ⟨p, hp, rfl⟩ := List.mem_map.mp this
    exact hcl p hp
  have cgt : ∀ (names : List (Str × NameKind)) (n : Nat) (acc : List (Str × Nat)) (lo : Nat), lo < n → (∀ p ∈ acc, lo < p.2) → ∀ p ∈ cellsFrom n names acc, lo < p.2 := by
    intro names
    induction names with
    | nil => intro n acc lo _ h; exact h
    | cons q r ih =>
      obtain ⟨y, k⟩ := q
      intro n acc lo hlo h
      unfold cellsFrom
      by_cases hk : (k == .cell) = true
      · rw [if_pos hk]
        refine ih (n + 1) _ lo (by omega) fun p hp => ?_
        rcases List.mem_cons.mp hp with rfl | hp
        · exact hlo
        · exact h p hp
      · rw [if_neg hk]; exact ih n acc lo hlo h
  have hfr := g.frame_in R
  exact {
    ok := g.ok
    base := fun a o e => by
      unfold restOf
      rw [if_neg fun hf => by have := (R.apart a hf).1; rw [g.base a o e] at this; cases this]
      exact g.keep R a o e
    apart := fun a ha => by
      obtain ⟨env, he, hf⟩ := List.mem_filterMap.mp ha
      obtain ⟨_, L, o, hL, _, _, hb⟩ := hfr env he
      rw [hL] at hf; cases hf; exact hb
    K := g.K
    top := g.top
    kind := hk
    globals := rfl
    celled := fun x hx => cellsFrom_some _ _ _ (.inl hx)
    cellk := cellk
    cellnd := ⟨cellsFrom_lt _ _ _ (fun _ h => nomatch h) (by simp), by show ((cellsFrom (s.heap.objs.size + 1) scope.names []).map (·.1)).Nodup; rw [← nm]; exact hnd, fun x k hx => by
      have := cgt scope.names (s.heap.objs.size + 1) [] s.heap.objs.size (by omega) (fun _ h => nomatch h) (x, k) hx
      show k ≠ s.heap.objs.size
      intro q; subst q; exact Nat.lt_irrefl _ this⟩
    builtins := rfl
    room := by
      have := g.room
      show f.A.depth + 1 + 2 * n < recursionLimit
      omega
    units := by
      have := g.units
      show f.A.units + 3 + 40 * n < cLine
      omega
    frames := by show f.A.frames.map _ = _; rw [g.frames]; rfl
    topk := ⟨hk, rfl, rfl, hgen, hco⟩
    low := g.low
    slots := fun a ha => by
      obtain ⟨env, he, hf⟩ := List.mem_filterMap.mp ha
      rcases List.mem_cons.mp he with rfl | he
      · left; cases hf; rfl
      · right; exact List.mem_filterMap.mpr ⟨env, he, hf⟩
    topL := ⟨s.heap.objs.size, rfl, .inl rfl, by
      cases e : f.base.get? s.heap.objs.size with
      | none => exact e
      | some o => exact absurd (Heap.lt_size (g.keep R _ _ e)) (Nat.lt_irrefl _)⟩
    slotIn := fun a ha => by
      obtain ⟨env, he, hf⟩ := List.mem_filterMap.mp ha
      obtain ⟨_, L, o, hL, hr, _, _⟩ := hfr env he
      rw [hL] at hf; cases hf; exact ⟨o, hr⟩
    home := rfl
    outer := fun env he => by
      obtain ⟨h1, L, o, hL, hr, hd, hb⟩ := hfr env he
      exact ⟨h1, L, o, hL, List.mem_filterMap.mpr ⟨env, he, hL⟩, hr, hd⟩ }
theorem newFm_rel {c : Cx} {n : Nat} {f : Fm} {fr : Nat → Option Obj} (g : Good c n f fr) {ρ : Lo} {σ : Hp} {z s s' : Shared} (R : c.Rel f ρ σ fr z s) {qual : Str} {scope : Scope} {fa : Nat} {cd : Value} {ps : List Str} {as : List MV} {us : List Value} (hs : scopeOk scope ps = true)
    (is : All2 MV.Is as us) (x : InCallC s s.heap.objs.size (bindL (envOfC qual scope s.heap.objs.size fa cd).kindOf (ps.zip us) fun _ => none) (cellsFrom (s.heap.objs.size + 1) scope.names []) (bindC (envOfC qual scope s.heap.objs.size fa cd).kindOf (ps.zip us) fun _ => none) s') :
    c.Rel (newFm f qual scope s.heap.objs.size fa cd) (bindLo ps as fun _ => none) σ (restOf σ s) z s' := by
  obtain ⟨hk, hco, hgen, hps, hcl, hnd⟩ := scopeOk_of hs
  obtain ⟨h₁, tk, rfl⟩ := x.toInCall.same
  have hk₁ := x.toInCall.keep
  have cell : ∀ y k, (y, k) ∈ cellsFrom (s.heap.objs.size + 1) scope.names [] → (Heap.IsCell h₁ k (bindC (envOfC qual scope s.heap.objs.size fa cd).kindOf (ps.zip us) (fun _ => none) y)) ∧ s.heap.objs.size < k := fun y k hy =>
    ⟨x.cell y k (lookup_of_mem_nodup (cellsFrom_names scope.names 0 (s.heap.objs.size + 1) [] [] rfl ▸ hnd) hy), x.above y k hy⟩
  refine ⟨R.same, fun a o e => ?_, fun a t mo e => (R.objs a t mo e).keeps hk₁, R.wf, fun a hf => ⟨?_, ?_, fun y k hy => ?_⟩, ⟨_, x.toInCall.ns, fun y hy => bindLo_local hy is trivial⟩, fun y k hy => ?_, ⟨?_, fun y k hy => ?_⟩, R.kl⟩
  · unfold restOf at e
    split at e
    · cases e
    · exact ⟨o.slots, hk₁ _ _ e, fun _ => rfl⟩
  · unfold restOf; rw [if_pos hf]
  · exact Nat.ne_of_lt (R.foot_lt hf)
  · have := (cell y k hy).2
    have h2 := R.foot_lt hf
    omega
  · obtain ⟨⟨o, ho, hd⟩, _⟩ := cell y k hy
    refine ⟨o, _, ho, hd, bindLo_cell (fun q => ?_) is trivial⟩
    have nm := cellsFrom_names scope.names 0 (s.heap.objs.size + 1) [] [] rfl
    have : y ∈ (cellsFrom 0 scope.names []).map (·.1) := by rw [nm]; exact List.mem_map.mpr ⟨_, hy, rfl⟩
    obtain ⟨p, hp, rfl⟩ := List.mem_map.mp this
    exact hcl p hp q
  · show restOf σ s s.heap.objs.size = none
    unfold restOf
    split
    · rfl
    · cases e : s.heap.get? s.heap.objs.size with
      | none => rfl
      | some o => exact absurd (Heap.lt_size e) (Nat.lt_irrefl _)
  · refine ⟨?_, fun q => ?_⟩
    · unfold restOf
      split
      · rfl
      · cases e : s.heap.get? k with
        | none => rfl
        | some o => exact absurd (Nat.lt_trans (cell y k hy).2 (Heap.lt_size e)) (Nat.lt_irrefl _)
    · have h3 := (cell y k hy).2
      rw [show k = s.heap.objs.size from q] at h3
      exact Nat.lt_irrefl _ h3
def WFn (c : Cx) (i : Ix) (a : Nat) (as : List MV) (ρ : Lo) (Q : MV → Hp → Prop) (X : EX) (σ : Hp) : Prop :=
  ∀ us, All2 MV.Is as us → ∀ f fr z s, f.env.scope = i.sc → (i.hn = true → f.A.handled = none) → Good c i.n f fr → c.Rel f ρ σ fr z s →
    codeAny c.M f.A (.call (.ref a) ⟨us, []⟩) (fun r s' => match r with
      | .ok (.ret v) => ∃ m σ', MV.Is m v ∧ c.Rel f ρ σ' fr z s' ∧ Q m σ'
      | .ok _ => False
      | .error e => XPost c f fr z (X.at ρ) e s') s
theorem WCall.of_fn {c : Cx} {i : Ix} {a : Nat} {as : List MV} {ρ : Lo} {Q : MV → Hp → Prop} {X : EX} {σ : Hp} (h : WFn c i a as ρ Q X σ) : WCall c i (.ref a) as ρ Q X σ := fun v us iv iu f fr z s hsc hh g R => by
  cases iv
  refine wpAny_call (codeAny_mono (h us iu f fr z s hsc hh g R) fun r s' q => ?_)
  rcases r with e | (_ | _ | _ | v) <;> exact q
theorem WFn.fn {c : Cx} {n : Nat} {hn : Bool} {sc : Scope} {a : Nat} {ps : List Str} {body : List Stmt} {scope : Scope} (F : FnAt c a ps body scope) {as : List MV} {ρ : Lo} {Q : MV → Hp → Prop} {X : EX} {σ : Hp} (hl : as.length = ps.length)
    (h : WSs c ⟨n, hn, scope⟩ body (bindLo ps as fun _ => none) (fun m _ σ' => Q m.val σ') noSX σ) : WFn c ⟨n + 1, hn, sc⟩ a as ρ Q X σ := fun us iu f fr z s hsc hh g R => by
  obtain ⟨⟨oc, od, osl, name, qual, params, dV, kV, doc, pm, an, cdv, ct, ho, hcd, hb⟩, hs⟩ := F
  obtain ⟨hk, hco, hgen, hps, hcl, hnd⟩ := scopeOk_of hs
  have hroom : f.A.depth < recursionLimit := by have := g.room; omega
  refine codeAny_call_function hroom (g.inK R _ _ ho) rfl hco hgen rfl (codeRec_of (g.inK R) hcd) ?_
  rw [hb us (by rw [← iu.length, hl])]
  refine wpAny_pure ?_
  refine wpAny_newFunctionEnv_cells hk (fun x hx => ?_) fun env' he s' x => ?_
  · have hx' := hps x.1 (List.of_mem_zip hx).1
    exact hx'.imp id fun q => ⟨q, cellsFrom_some _ _ _ (.inl q)⟩
  · subst he
    refine ⟨(g.at R).nolimit.keeps x.toInCall.keep, codeAny_func ?_⟩
    have G' := newFm_good g R (qual := qual) (fa := a) (cd := cdv) hs
    have R' := newFm_rel g R (qual := qual) (fa := a) (cd := cdv) hs iu x
    refine wuse6 (h (newFm f qual scope s.heap.objs.size a cdv) _ z s' rfl (fun q => hh q) G' R') (fun fl s'' m ρ' σ' is R'' q => ?_) fun e s'' ⟨_, _, _, _, _, _, _, q⟩ => q.elim
    refine ⟨m.val, σ', ?_, R.back (f' := newFm f qual scope s.heap.objs.size a cdv) g rfl rfl R'', q⟩
    cases m with
    | ret v => obtain ⟨u, rfl, is⟩ := is; exact is
    | next => cases is; rfl
    | brk => cases is; rfl
    | cont => cases is; rfl
end Mine
open PySem PySem.W PyProof.Rows
namespace Mine
def allNews (h : Heap) (L : Nat) : List (Nat × Obj) := (List.range h.objs.size).filterMap fun a => if a = L then none else (h.get? a).map fun o => (a, o)
theorem mem_allNews {h : Heap} {L a : Nat} {o : Obj} : (a, o) ∈ allNews h L ↔ a ≠ L ∧ h.get? a = some o := by
  unfold allNews
  rw [List.mem_filterMap]
  constructor
  · rintro ⟨b, _, hb⟩
    split at hb
    · cases hb
    · rename_i hne
      obtain ⟨o', ho', e⟩ := Option.map_eq_some_iff.mp hb
      cases e
      exact ⟨hne, ho'⟩
  · rintro ⟨hne, ho⟩
    exact ⟨a, List.mem_range.mpr (Heap.lt_size ho), by rw [if_neg hne, ho]; rfl⟩
theorem empty_get (a : Nat) : ({} : Heap).get? a = none := by
  cases e : ({} : Heap).get? a with
  | none => rfl
  | some o => exact absurd (Heap.lt_size e) (Nat.not_lt_zero _)
theorem news_all (h : Heap) (L : Nat) : News {} L h (allNews h L) := fun p hp => by
  obtain ⟨a, o⟩ := p
  obtain ⟨h1, h2⟩ := mem_allNews.mp hp
  exact ⟨h2, h1, empty_get a⟩
theorem fr_all {h : Heap} {L : Nat} {m : Str → Option Value} (hn : h.Ns L m) : Fr {} L h m := ⟨hn, fun b o e => (by rw [empty_get] at e; cases e), Nat.zero_le _⟩
theorem allNews_split {h : Heap} {L d : Nat} {o : Obj} (ho : h.get? d = some o) (hd : d ≠ L) : ∃ pre post, allNews h L = pre ++ (d, o) :: post ∧ (∀ p ∈ pre, p.1 ≠ d) ∧ ∀ p ∈ post, p.1 ≠ d := by
  have nd : ∀ (l : List Nat), l.Nodup → ((l.filterMap fun a => if a = L then none else (h.get? a).map fun o => (a, o)).map (·.1)).Nodup := by
    intro l
    induction l with
    | nil => intro _; simp
    | cons b r ih =>
      intro hn
      simp only [List.nodup_cons] at hn
      rw [List.filterMap_cons]
      split
      · exact ih hn.2
      · rename_i p hp
        rw [List.map_cons, List.nodup_cons]
        refine ⟨fun hm => hn.1 ?_, ih hn.2⟩
        split at hp
        · cases hp
        · obtain ⟨o', _, e⟩ := Option.map_eq_some_iff.mp hp
          cases e
          obtain ⟨q, hq, e2⟩ := List.mem_map.mp hm
          obtain ⟨b', hb', hq'⟩ := List.mem_filterMap.mp hq
          split at hq'
          · cases hq'
          · obtain ⟨o2, _, e3⟩ := Option.map_eq_some_iff.mp hq'
            cases e3
            dsimp only at e2
            subst e2
            exact hb'
  obtain ⟨pre, post, e⟩ := List.append_of_mem (mem_allNews.mpr ⟨hd, ho⟩)
  have hn := nd (List.range h.objs.size) List.nodup_range
  change ((allNews h L).map (·.1)).Nodup at hn
  rw [e, List.map_append, List.map_cons, List.nodup_append] at hn
  obtain ⟨_, h2, h3⟩ := hn
  rw [List.nodup_cons] at h2
  refine ⟨pre, post, e, fun p hp q => ?_, fun p hp q => ?_⟩
  · exact h3 p.1 (List.mem_map_of_mem hp) d (.head _) q
  · exact h2.1 (List.mem_map.mpr ⟨p, hp, q⟩)
theorem ns_unique {h : Heap} {L : Nat} {m m' : Str → Option Value} (a : h.Ns L m) (b : h.Ns L m') : m = m' := by
  obtain ⟨o, es, ep, h1, h2, _, h3⟩ := a
  obtain ⟨o', es', ep', h1', h2', _, h3'⟩ := b
  rw [h1] at h1'
  cases h1'
  rw [h2] at h2'
  cases h2'
  funext x
  rw [← h3 x, ← h3' x]
theorem Kept.of_news {L : Nat} {h h' : Heap} {m : Str → Option Value} {D : Nat → Prop} {news : List (Nat × Obj)} (hn : h.Ns L m) (F' : Fr {} L h' m) (N' : News {} L h' news) (k : ∀ p ∈ allNews h L, ¬ D p.1 → p ∈ news) : Kept L D h h' :=
  ⟨fun a o nD nL e => (N' _ (k (a, o) (mem_allNews.mpr ⟨nL, e⟩) nD)).1, fun m' hm => by rw [ns_unique hm hn]; exact F'.ns⟩
theorem fields_get {P : Params} {fs : List (Str × MV)} {es : List DictEntry} (h : FieldsAre P fs es) {x : Str} {v : MV} (hv : fs.lookup x = some v) : ∃ u, getL x es = some (some u) ∧ v.Is u := by
  unfold getL
  induction h with
  | nil => cases hv
  | @cons p e l m r _ ih =>
    obtain ⟨y, mv⟩ := p
    obtain ⟨_, ⟨t, hk⟩, is⟩ := r
    rw [List.lookup_cons] at hv
    have hk' : e.key.isStr x = (y == x) := by rw [hk]; rfl
    cases q : (x == y) with
    | true =>
      rw [q] at hv; cases hv
      rw [List.find?_cons, hk', show (y == x) = true from by rw [beq_iff_eq] at q ⊢; exact q.symm]
      exact ⟨_, rfl, is⟩
    | false =>
      rw [q] at hv
      obtain ⟨u, h1, h2⟩ := ih hv
      refine ⟨u, ?_, h2⟩
      rw [List.find?_cons, hk', show (y == x) = false from by rw [beq_eq_false_iff_ne] at q ⊢; exact fun e => q e.symm]
      split at h1
      · rename_i en he; rw [he]; exact h1
      · rename_i he
        split at h1 <;> cases h1
theorem fields_none {P : Params} {fs : List (Str × MV)} {es : List DictEntry} (h : FieldsAre P fs es) {x : Str} (hv : fs.lookup x = none) : getL x es = some none := by
  have key : es.find? (·.key.isStr x) = none ∧ es.any (·.refKey) = false := by
    induction h with
    | nil => exact ⟨rfl, rfl⟩
    | @cons p e l m r _ ih =>
      obtain ⟨y, mv⟩ := p
      obtain ⟨_, ⟨t, hk⟩, is⟩ := r
      rw [List.lookup_cons] at hv
      cases q : (x == y) with
      | true => rw [q] at hv; cases hv
      | false =>
        rw [q] at hv
        obtain ⟨h1, h2⟩ := ih hv
        refine ⟨?_, ?_⟩
        · have hk' : e.key.isStr x = (y == x) := by rw [hk]; rfl
          rw [List.find?_cons, hk', show (y == x) = false from by rw [beq_eq_false_iff_ne] at q ⊢; exact fun e => q e.symm]; exact h1
        · rw [List.any_cons, h2, Bool.or_false]
          unfold DictEntry.refKey
          rw [hk]
  unfold getL
  rw [key.1, key.2]; rfl
def putF (x : Str) (v : MV) : List (Str × MV) → List (Str × MV)
  | [] => [(x, v)]
  | (y, u) :: r => if y = x then (y, v) :: r else (y, u) :: putF x v r
theorem fields_put {P : Params} {fs : List (Str × MV)} {es : List DictEntry} (h : FieldsAre P fs es) {x : Str} {v : MV} {u : Value} {tk : Tok} (is : v.Is u) : FieldsAre P (putF x v fs) (putL x (PyData.keyHash P x) (.str x tk) u es) := by
  induction h with
  | nil => exact .cons ⟨rfl, ⟨tk, rfl⟩, is⟩ .nil
  | @cons p e l m r rs ih =>
    obtain ⟨y, mv⟩ := p
    have hk' : e.key.isStr x = (y == x) := by obtain ⟨_, ⟨t, hk⟩, _⟩ := r; rw [hk]; rfl
    unfold putF putL
    rw [hk']
    by_cases q : y = x
    · rw [if_pos q, if_pos (beq_iff_eq.mpr q)]
      exact .cons ⟨r.1, r.2.1, is⟩ rs
    · rw [if_neg q, if_neg (fun z => q (beq_iff_eq.mp z))]
      exact .cons r ih
def MV.plain : MV → Bool
  | .con _ => false
  | _ => true
theorem MV.handed {v : MV} {u : Value} (hp : v.plain = true) (is : v.Is u) : handedIn u = true := by
  cases v with
  | none => cases is; rfl
  | bool b => cases is; rfl
  | int i => obtain ⟨t, rfl⟩ := is; rfl
  | str x => obtain ⟨t, rfl⟩ := is; rfl
  | ref a => cases is; rfl
  | con c => cases hp
section
variable {c : Cx} {i : Ix} {ρ : Lo} {σ : Hp} {X : EX}
theorem Rel.inst {f : Fm} {fr : Nat → Option Obj} {z s : Shared} (R : c.Rel f ρ σ fr z s) {a t C : Nat} {fs : List (Str × MV)} (e : σ a = some (t, .inst C fs)) :
    ∃ d es n, a = d + 1 ∧ s.heap.get? a = some (instObj C d) ∧ s.heap.get? d = some (dictOf es n) ∧ FieldsAre c.w.params fs es ∧ InstAt s.heap a (instObj C d) C (some (dictOf es n)) := by
  obtain ⟨d, es, n, h1, h2, h3, h4⟩ := R.objs a t _ e
  exact ⟨d, es, n, h1, h2, h3, h4, h2, rfl, rfl, h3⟩
theorem WGet.inst {a t C name fs v} {Q : MV → Hp → Prop} (e : σ a = some (t, .inst C fs)) (hf : c.fld C name = true) (hv : fs.lookup name = some v) (hp : v.plain = true) (h : Q v σ) : WGet c i (.ref a) name ρ Q X σ := fun u iu f fr z s hsc hh g R => by
  cases iu
  obtain ⟨d, es, n, _, _, _, hfs, I⟩ := Rel.inst R e
  obtain ⟨u, hu, is⟩ := fields_get hfs hv
  obtain ⟨h1, h2, h3, _⟩ := g.ok.fld C name hf
  exact get_value (g.inK R) I (plainGet_of h1).1 (findObj_own h2 h3 rfl (by rw [lookIn_dict]; exact hu)) (MV.handed hp is) ⟨v, σ, is, R.toks _, h⟩
theorem WM.inst {a t C name fs fa} {Q : MV × List MV → Hp → Prop} (e : σ a = some (t, .inst C fs)) (hm : c.meth C name = some fa) (hv : fs.lookup name = none) (h : Q (.ref fa, [.ref a]) σ) : WM c i (.ref a) name ρ Q X σ := fun u pl iu f fr z s hsc hh g R => by
  cases iu
  obtain ⟨d, es, n, _, _, _, hfs, I⟩ := Rel.inst R e
  obtain ⟨h1, h2, h3, _⟩ := g.ok.meth C name fa hm
  refine method_fn (g.inK R) I (plainGet_of h1).1 (plainGet_of h1).2 h2 (beq_iff_eq.mp h3) ?_ ⟨(.ref fa, [.ref a]), σ, ⟨rfl, .cons rfl .nil⟩, R, h⟩
  show (lookIn name (dictOf es n)).map _ = _
  rw [lookIn_dict, fields_none hfs hv]; rfl
theorem WSet.inst {a t C name fs v} {Q : Unit → Hp → Prop} (e : σ a = some (t, .inst C fs)) (hf : c.fld C name = true) (hl : fs.length < 900) (h : Q () (σ.put a t (.inst C (putF name v fs)))) : WSet c i (.ref a) name v ρ Q X σ := fun u w iu iw f fr z s hsc hh g R => by
  cases iu
  obtain ⟨d, es, n, rfl, hx, hd, hfs, I⟩ := Rel.inst R e
  obtain ⟨h1, h2, h3, h4, h5, h6⟩ := g.ok.fld C name hf
  obtain ⟨m, hn, hm⟩ := R.ns
  have hdL : d ≠ f.env.locals := (R.apart d (.inr ⟨_, _, _, e⟩)).2.1
  obtain ⟨pre, post, ea, ha, hb⟩ := allNews_split hd hdL
  have N := news_all s.heap f.env.locals
  rw [ea] at N
  have len : ∀ (es : List DictEntry) (tk : Tok), (putL name (PyData.keyHash c.w.params name) (.str name tk) w es).length ≤ es.length + 1 := by
    intro es tk
    induction es with
    | nil => simp [putL]
    | cons e r ih =>
      unfold putL
      split
      · simp
      · simp only [List.length_cons]; omega
  have el : es.length = fs.length := (All2.length hfs).symm
  refine set_plain (g.inK R) I h4 (osa_dict (s := { s with toks := s.toks + 1 }) (fr_all hn) N (g.inK (R.toks _)) I rfl h5 h6 h2 ?_ ha hb (putName_dict _ _ _ _ _ _) rfl ?_ fun h' F' N' => ?_)
  · show (lookIn name (dictOf es n)).isSome = true
    rw [lookIn_dict]
    cases q : fs.lookup name with
    | none => rw [fields_none hfs q]; rfl
    | some v' => obtain ⟨u, hu, _⟩ := fields_get hfs q; rw [hu]; rfl
  · have := len es (s.toks + 1); show _ ≤ 1000; have h0 : ({ s with toks := s.toks + 1 } : Shared).toks = s.toks + 1 := rfl; rw [h0]; omega
  · have K' : Kept f.L (· = d) s.heap h' := Kept.of_news hn F' N' fun p hp nd => by
      rw [ea] at hp
      rcases List.mem_append.mp hp with q | q
      · exact List.mem_append_left _ q
      · rcases List.mem_cons.mp q with rfl | q
        · exact absurd rfl nd
        · exact List.mem_append_right _ (.tail _ q)
    refine ⟨(), _, rfl, R.updI e K' ⟨d, _, _, rfl, ?_, (N' (d, _) (List.mem_append_right _ (.head _))).1, fields_put hfs iw⟩, h⟩
    exact K'.1 _ _ (by show ¬ (d + 1 = d); omega) (R.neL e) hx
end
end Mine
open PySem PySem.W PyProof.Rows
namespace Mine
theorem All2.one {α β : Type} {R : α → β → Prop} {a : α} {us : List β} (h : All2 R [a] us) : ∃ u, us = [u] ∧ R a u := by
  cases h with | cons r h => cases h; exact ⟨_, rfl, r⟩
theorem All2.two {α β : Type} {R : α → β → Prop} {a b : α} {us : List β} (h : All2 R [a, b] us) : ∃ u v, us = [u, v] ∧ R a u ∧ R b v := by
  cases h with | cons r h => obtain ⟨v, rfl, r'⟩ := h.one; exact ⟨_, _, rfl, r, r'⟩
section
variable {c : Cx} {i : Ix} {ρ : Lo} {σ : Hp} {X : EX}
-- truth
theorem WTr.bool {b} {Q : Bool → Hp → Prop} (h : Q b σ) : WTr c i (.bool b) ρ Q X σ := fun v is f fr z s _ _ g R => by cases is; dsimp only; (with_reducible refine wpAny_truthy_bool ?_); exact ⟨_, σ, rfl, R, h⟩
theorem WU.not {m} {Q : MV → Hp → Prop} (h : WTr c i m ρ (fun k σ₁ => Q (.bool (!k)) σ₁) X σ) : WU c i .Not m ρ Q X σ := fun v is f fr z s a b g R =>
  not_of (wuse (h v is f fr z s a b g R) (fun k s' k' σ' e R' q => by subst e; exact ⟨.bool _, σ', rfl, R', q⟩) fun _ _ x => x)
theorem WU.neg {n} {Q : MV → Hp → Prop} (h : Q (.int (-n)) σ) : WU c i .USub (.int n) ρ Q X σ := fun v is f fr z s a b g R => by
  obtain ⟨t, rfl⟩ := is; dsimp only; (with_reducible refine neg_int ?_); exact ⟨.int (-n), σ, ⟨_, rfl⟩, R.toks _, h⟩
-- ints
theorem WB.add {m n} {Q : MV → Hp → Prop} (h : Q (.int (m + n)) σ) : WB c i .Add (.int m) (.int n) ρ Q X σ := fun v u iv iu f fr z s _ _ g R => by
  obtain ⟨t, rfl⟩ := iv; obtain ⟨t', rfl⟩ := iu; dsimp only; (with_reducible refine add_int ?_); exact ⟨.int (m + n), σ, ⟨_, rfl⟩, R.toks _, h⟩
theorem WI.add {m n} {Q : MV → Hp → Prop} (h : Q (.int (m + n)) σ) : WI c i .Add (.int m) (.int n) ρ Q X σ := fun v u iv iu f fr z s _ _ g R => by
  obtain ⟨t, rfl⟩ := iv; obtain ⟨t', rfl⟩ := iu; dsimp only; (with_reducible refine iadd_int ?_); exact ⟨.int (m + n), σ, ⟨_, rfl⟩, R.toks _, h⟩
theorem WB.sub {m n} {Q : MV → Hp → Prop} (h : Q (.int (m - n)) σ) : WB c i .Sub (.int m) (.int n) ρ Q X σ := fun v u iv iu f fr z s _ _ g R => by
  obtain ⟨t, rfl⟩ := iv; obtain ⟨t', rfl⟩ := iu; dsimp only; (with_reducible refine sub_int ?_); exact ⟨.int (m - n), σ, ⟨_, rfl⟩, R.toks _, h⟩
theorem WB.mul {m n} {Q : MV → Hp → Prop} (hm : IntMulOk m n) (h : Q (.int (m * n)) σ) : WB c i .Mult (.int m) (.int n) ρ Q X σ := fun v u iv iu f fr z s _ _ g R => by
  obtain ⟨t, rfl⟩ := iv; obtain ⟨t', rfl⟩ := iu; exact mul_int ⟨.int (m * n), σ, ⟨_, rfl⟩, R.toks _, h⟩ hm
theorem WB.div {m n} {Q : MV → Hp → Prop} (h0 : n ≠ 0) (h1 : n.natAbs < 1073741824) (h : Q (.int (m.fdiv n)) σ) : WB c i .FloorDiv (.int m) (.int n) ρ Q X σ := fun v u iv iu f fr z s _ _ g R => by
  obtain ⟨t, rfl⟩ := iv; obtain ⟨t', rfl⟩ := iu; exact floordiv_int h0 ⟨.int (m.fdiv n), σ, ⟨_, rfl⟩, R.toks _, h⟩ (.inl (PyProof.noPylong_small h1))
theorem WB.mod {m n} {Q : MV → Hp → Prop} (h0 : n ≠ 0) (h : Q (.int (m.fmod n)) σ) : WB c i .Mod (.int m) (.int n) ρ Q X σ := fun v u iv iu f fr z s _ _ g R => by
  obtain ⟨t, rfl⟩ := iv; obtain ⟨t', rfl⟩ := iu; exact PyProof.Rows.mod_int h0 ⟨.int (m.fmod n), σ, ⟨_, rfl⟩, R.toks _, h⟩
theorem WC.lt {m n} {Q : MV → Hp → Prop} (h : Q (.bool (decide (m < n))) σ) : WC c i .Lt (.int m) (.int n) ρ Q X σ := fun v u iv iu f fr z s _ _ g R => by
  obtain ⟨t, rfl⟩ := iv; obtain ⟨t', rfl⟩ := iu; dsimp only; (with_reducible refine lt_int ?_); exact ⟨.bool _, σ, rfl, R, h⟩
theorem WC.le {m n} {Q : MV → Hp → Prop} (h : Q (.bool (decide (m ≤ n))) σ) : WC c i .LtE (.int m) (.int n) ρ Q X σ := fun v u iv iu f fr z s _ _ g R => by
  obtain ⟨t, rfl⟩ := iv; obtain ⟨t', rfl⟩ := iu; dsimp only; (with_reducible refine PyProof.Rows.le_int ?_); exact ⟨.bool _, σ, rfl, R, h⟩
theorem WC.gt {m n} {Q : MV → Hp → Prop} (h : Q (.bool (decide (n < m))) σ) : WC c i .Gt (.int m) (.int n) ρ Q X σ := fun v u iv iu f fr z s _ _ g R => by
  obtain ⟨t, rfl⟩ := iv; obtain ⟨t', rfl⟩ := iu; dsimp only; (with_reducible refine PyProof.Rows.gt_int ?_); exact ⟨.bool _, σ, rfl, R, h⟩
theorem WC.eqI {m n} {Q : MV → Hp → Prop} (h : Q (.bool (m == n)) σ) : WC c i .Eq (.int m) (.int n) ρ Q X σ := fun v u iv iu f fr z s _ _ g R => by
  obtain ⟨t, rfl⟩ := iv; obtain ⟨t', rfl⟩ := iu; dsimp only; (with_reducible refine PyProof.Rows.eq_int ?_); exact ⟨.bool _, σ, rfl, R, h⟩
theorem WC.neI {m n} {Q : MV → Hp → Prop} (h : Q (.bool (m != n)) σ) : WC c i .NotEq (.int m) (.int n) ρ Q X σ := fun v u iv iu f fr z s _ _ g R => by
  obtain ⟨t, rfl⟩ := iv; obtain ⟨t', rfl⟩ := iu; dsimp only; (with_reducible refine PyProof.Rows.ne_int ?_); exact ⟨.bool _, σ, rfl, R, h⟩
theorem WC.eqS {x y} {Q : MV → Hp → Prop} (h : Q (.bool (x == y)) σ) : WC c i .Eq (.str x) (.str y) ρ Q X σ := fun v u iv iu f fr z s _ _ g R => by
  obtain ⟨t, rfl⟩ := iv; obtain ⟨t', rfl⟩ := iu; dsimp only; (with_reducible refine PyProof.Rows.eq_str ?_); exact ⟨.bool _, σ, rfl, R, h⟩
theorem WC.neS {x y} {Q : MV → Hp → Prop} (h : Q (.bool (x != y)) σ) : WC c i .NotEq (.str x) (.str y) ρ Q X σ := fun v u iv iu f fr z s _ _ g R => by
  obtain ⟨t, rfl⟩ := iv; obtain ⟨t', rfl⟩ := iu; dsimp only; (with_reducible refine PyProof.Rows.ne_str ?_); exact ⟨.bool _, σ, rfl, R, h⟩
theorem WC.neNN {Q : MV → Hp → Prop} (h : Q (.bool false) σ) : WC c i .NotEq .none .none ρ Q X σ := fun v u iv iu f fr z s _ _ g R => by
  cases iv; cases iu; dsimp only; (with_reducible refine PySem.EqNone.ne_none_none ?_); exact ⟨.bool _, σ, rfl, R, h⟩
def MV.isNone : MV → Bool
  | .none => true
  | _ => false
theorem isNone_of {m : MV} {v : Value} (hc : ∀ k, m ≠ .con k) (is : m.Is v) : (v == .none) = m.isNone := by
  cases m with
  | none => cases is; rfl
  | bool b => cases is; rfl
  | int n => obtain ⟨t, rfl⟩ := is; rfl
  | str x => obtain ⟨t, rfl⟩ := is; rfl
  | ref a => cases is; rfl
  | con k => exact absurd rfl (hc k)
theorem WC.isNone {m} {Q : MV → Hp → Prop} (hp : m.plain = true) (h : Q (.bool m.isNone) σ) : WC c i .Is m .none ρ Q X σ := fun v u iv iu f fr z s _ _ g R => by
  cases iu; refine is_none_gen ⟨.bool m.isNone, σ, ?_, R, h⟩; rw [isNone_of (by intro k e; subst e; cases hp) iv]; rfl
theorem WC.isNotB {x y} {Q : MV → Hp → Prop} (h : Q (.bool (x != y)) σ) : WC c i .IsNot (.bool x) (.bool y) ρ Q X σ := fun v u iv iu f fr z s _ _ g R => by
  cases iv; cases iu; dsimp only; (with_reducible refine isnot_bool ?_); exact ⟨.bool _, σ, rfl, R, h⟩
theorem WB.addS {x y} {Q : MV → Hp → Prop} (hl : x.length + y.length ≤ sizeLine) (h : Q (.str (x ++ y)) σ) : WB c i .Add (.str x) (.str y) ρ Q X σ := fun v u iv iu f fr z s _ _ g R => by
  obtain ⟨t, rfl⟩ := iv; obtain ⟨t', rfl⟩ := iu; exact PyProof.Rows.add_str (fun t'' tk => ⟨.str (x ++ y), σ, ⟨_, rfl⟩, R.toks _, h⟩) hl
-- what a thing is
inductive KindOf (σ : Hp) : MV → Value → Prop
  | none : KindOf σ .none (.type "NoneType")
  | bool {b} : KindOf σ (.bool b) (.type "bool")
  | int {n} : KindOf σ (.int n) (.type "int")
  | str {x} : KindOf σ (.str x) (.type "str")
  | list {a t xs} : σ a = some (t, .list xs) → KindOf σ (.ref a) (.type "list")
  | tuple {a t xs} : σ a = some (t, .tuple xs) → KindOf σ (.ref a) (.type "tuple")
theorem WCall.isinstance {m t cv b} {Q : MV → Hp → Prop} (k : KindOf σ m t) (e : kitOne c.K t cv = some b) (h : Q (.bool b) σ) : WCall c i (.con (.builtin "isinstance")) [m, .con cv] ρ Q X σ := fun v us iv iu f fr z s _ _ g R => by
  cases iv
  obtain ⟨u1, u2, rfl, i1, i2⟩ := iu.two
  cases i2
  have fin : ∀ tk, (fun (a : Value) s' => ∃ m σ', MV.Is m a ∧ c.Rel f ρ σ' fr z s' ∧ Q m σ') (.bool b) { s with toks := tk } := fun tk => ⟨.bool b, σ, rfl, R.toks _, h⟩
  cases k with
  | none => cases i1; exact kia_one kitx_none (g.inK R) trivial e (by intro q; cases q) fin
  | bool => cases i1; exact kia_one kitx_bool (g.inK R) trivial e (by intro q; cases q) fin
  | int => obtain ⟨t, rfl⟩ := i1; exact kia_one kitx_int (g.inK R) trivial e (by intro q; cases q) fin
  | str => obtain ⟨t, rfl⟩ := i1; exact kia_one kitx_str (g.inK R) trivial e (by intro q; cases q) fin
  | list he => cases i1; obtain ⟨its, n, ho, _⟩ := R.objs _ _ _ he; exact kia_one kitx_list (g.inK R) ⟨_, ho, rfl⟩ e (by intro q; cases q) fin
  | tuple he => cases i1; obtain ⟨its, n, ho, _⟩ := R.objs _ _ _ he; exact kia_one kitx_tuple (g.inK R) ⟨_, ho, rfl⟩ e (by intro q; cases q) fin
end
end Mine
open PySem PySem.W PyProof.Rows
namespace Mine
def Fresh (σ : Hp) (b : Nat) : Prop := ∀ a p, σ a = some p → a < b
theorem Rel.withA {c : Cx} {f : Fm} {A' : Around} {ρ : Lo} {σ : Hp} {fr : Nat → Option Obj} {z s : Shared} (R : c.Rel f ρ σ fr z s) : c.Rel { f with A := A' } ρ σ fr z s := ⟨R.same, R.keep, R.objs, R.wf, R.apart, R.ns, R.cel, R.frame, R.kl⟩
theorem Rel.ofA {c : Cx} {f : Fm} {A' : Around} {ρ : Lo} {σ : Hp} {fr : Nat → Option Obj} {z s : Shared} (R : c.Rel { f with A := A' } ρ σ fr z s) : c.Rel f ρ σ fr z s := ⟨R.same, R.keep, R.objs, R.wf, R.apart, R.ns, R.cel, R.frame, R.kl⟩
theorem XPost.ofA {c : Cx} {f : Fm} {A' : Around} {fr : Nat → Option Obj} {z : Shared} {X : SX} {v : Value} {s : Shared} (h : XPost c { f with A := A' } fr z X v s) : XPost c f fr z X v s := by
  obtain ⟨b, C, e, ρ', σ', h1, h2, h3⟩ := h
  refine ⟨b, C, e, ρ', σ', h1, ?_, h3⟩
  cases b with
  | true => obtain ⟨h, vs, r, q⟩ := h2; exact ⟨h, vs, r.ofA, q⟩
  | false => obtain ⟨h, t, vs, r, q⟩ := h2; exact ⟨h, t, vs, r.ofA, q⟩
section
variable {c : Cx} {n : Nat} {hn : Bool} {sc : Scope} {ρ : Lo} {σ : Hp} {X : EX}
theorem WFn.make {C fI : Nat} {as : List MV} {Q : MV → Hp → Prop} (t : Nat) (hi : c.init C = some fI)
    (h : ∀ b, Fresh σ b → σ b = none → WFn c ⟨n, hn, sc⟩ fI (.ref b :: as) ρ (fun r σ' => r = .none ∧ Q (.ref b) σ') X (σ.put b t (.inst C []))) : WFn c ⟨n + 1, hn, sc⟩ C as ρ Q X σ := fun us iu f fr z s hsc hh g R => by
  obtain ⟨h1, h2, h3, h4⟩ := g.ok.init C fI hi
  obtain ⟨hp, gens, d, tk, os⟩ := s
  refine make_core (makes_of (g.inK R) h1) (looks_findIn (g.inK R) h2) (fun self => bind_fn (g.inK R) self (beq_iff_eq.mp h3)) (.inl rfl) ?_
  have k : ∀ b o, hp.get? b = some o → ((hp.push emptyDict).push (instObj C hp.objs.size)).get? b = some o := fun b o e => Heap.get?_push_of_some _ (Heap.get?_push_of_some _ e)
  have hx : ((hp.push emptyDict).push (instObj C hp.objs.size)).get? (hp.objs.size + 1) = some (instObj C hp.objs.size) := by heap_get
  have hd : ((hp.push emptyDict).push (instObj C hp.objs.size)).get? hp.objs.size = some emptyDict := by heap_get
  have fresh : Fresh σ (hp.objs.size + 1) := fun a p e => Nat.lt_succ_of_lt (R.some_lt e)
  have R₁ : c.Rel f ρ (σ.put (hp.objs.size + 1) t (.inst C [])) fr z ⟨(hp.push emptyDict).push (instObj C hp.objs.size), gens, d, tk, os⟩ :=
    R.alloc (tk := tk) t (.of_grown k) (Nat.le_succ _) (fun _ => Nat.lt_succ_self _) ⟨hp.objs.size, [], 0, rfl, hx, hd, .nil⟩
  have G₁ : Good c n { f with A := f.A.under (.builtin "type.__call__" ⟨.ref C :: us, []⟩) } fr := by
    exact {
      ok := g.ok, base := g.base, apart := g.apart, K := g.K, top := g.top, kind := g.kind, globals := g.globals, celled := g.celled, cellk := g.cellk, cellnd := g.cellnd, builtins := g.builtins
      room := by have := g.room; show f.A.depth + 1 + 2 * n < recursionLimit; dsimp only at this; omega
      units := by have := g.units; show f.A.units + 1 + 40 * n < cLine; dsimp only at this; omega
      frames := g.frames, topk := g.topk, low := g.low, slots := g.slots, topL := g.topL, slotIn := g.slotIn, home := g.home, outer := g.outer }
  have key := h (hp.objs.size + 1) fresh (by
    cases e : σ (hp.objs.size + 1) with
    | none => rfl
    | some p => exact absurd (R.some_lt e) (by show ¬ (hp.objs.size + 1 < hp.objs.size); omega)) (.ref (hp.objs.size + 1) :: us) (.cons rfl iu) { f with A := f.A.under (.builtin "type.__call__" ⟨.ref C :: us, []⟩) } fr z _ hsc hh G₁ R₁.withA
  refine codeAny_mono key fun r s' q => ?_
  rcases r with e | (_ | _ | _ | v)
  · exact XPost.ofA q
  · exact q
  · exact q
  · exact q
  · obtain ⟨m, σ', is, R', rfl, hq⟩ := q
    cases is
    exact ⟨rfl, .ref (hp.objs.size + 1), σ', rfl, R'.ofA, hq⟩
end
end Mine
open PySem PySem.W PyProof.Rows
namespace Mine
section
variable {κ : Type} [DecidableEq κ]
def getK (es : List (κ × MV)) (k : κ) : Option MV := (es.find? fun p => decide (p.1 = k)).map (·.2)
def putK (es : List (κ × MV)) (k : κ) (v : MV) : List (κ × MV) := if es.any (fun p => decide (p.1 = k)) then es.map (fun p => if p.1 = k then (p.1, v) else p) else es ++ [(k, v)]
def delK (es : List (κ × MV)) (k : κ) : List (κ × MV) := es.filter fun p => decide (p.1 ≠ k)
abbrev PR (p : κ × MV) (q : κ × Value) : Prop := p.1 = q.1 ∧ p.2.Is q.2
theorem getK_some {es : List (κ × MV)} {kvs : List (κ × Value)} (h : All2 PR es kvs) {k : κ} {v : MV} (e : getK es k = some v) : ∃ u, valueAt kvs k = some u ∧ v.Is u := by
  unfold getK at e
  unfold valueAt
  induction h with
  | nil => cases e
  | @cons p q l m r _ ih =>
    rw [List.find?_cons] at e ⊢
    rw [← r.1]
    by_cases hk : p.1 = k
    · rw [decide_eq_true hk] at e ⊢; cases e; exact ⟨_, rfl, r.2⟩
    · rw [decide_eq_false hk] at e ⊢; exact ih e
theorem getK_none {es : List (κ × MV)} {kvs : List (κ × Value)} (h : All2 PR es kvs) {k : κ} (e : getK es k = none) : valueAt kvs k = none := by
  unfold getK at e
  unfold valueAt
  induction h with
  | nil => rfl
  | @cons p q l m r _ ih =>
    rw [List.find?_cons] at e ⊢
    rw [← r.1]
    by_cases hk : p.1 = k
    · rw [decide_eq_true hk] at e; cases e
    · rw [decide_eq_false hk] at e ⊢; exact ih e
theorem getK_isSome {es : List (κ × MV)} {kvs : List (κ × Value)} (h : All2 PR es kvs) (k : κ) : (valueAt kvs k).isSome = (getK es k).isSome := by
  cases e : getK es k with
  | none => rw [getK_none h e]; rfl
  | some v => obtain ⟨u, hu, _⟩ := getK_some h e; rw [hu]; rfl
theorem putK_all {es : List (κ × MV)} {kvs : List (κ × Value)} (h : All2 PR es kvs) {k : κ} {v : MV} {u : Value} (is : v.Is u) : All2 PR (putK es k v) (stored kvs k u) := by
  have an : es.any (fun p => decide (p.1 = k)) = kvs.any (fun p => decide (p.1 = k)) := by
    induction h with
    | nil => rfl
    | cons r _ ih => rw [List.any_cons, List.any_cons, ih, r.1]
  unfold putK stored
  rw [an]
  split
  · rename_i hh
    clear an hh
    induction h with
    | nil => exact .nil
    | @cons p q l m r _ ih =>
      rw [List.map_cons, List.map_cons]
      refine .cons ?_ ih
      rw [← r.1]
      by_cases hk : p.1 = k
      · rw [if_pos hk, if_pos hk]; exact ⟨rfl, is⟩
      · rw [if_neg hk, if_neg hk]; exact r
  · exact h.append (.cons ⟨rfl, is⟩ .nil)
theorem delK_all {es : List (κ × MV)} {kvs : List (κ × Value)} (h : All2 PR es kvs) (k : κ) : All2 PR (delK es k) (without kvs k) := by
  unfold delK without
  induction h with
  | nil => exact .nil
  | @cons p q l m r _ ih =>
    rw [List.filter_cons, List.filter_cons, ← r.1]
    split
    · exact .cons r ih
    · exact ih
end
abbrev NoSlice (sl : Expr) : Prop := ∀ o i, subscripted sl false o i = operate [o, i] (getItem o i)
def ListAt (σ : Hp) (a : Nat) (xs : List MV) : Prop := ∃ t, σ a = some (t, .list xs) ∨ ∃ o, σ a = some (t, .klist xs o)
theorem ListAt.own {σ : Hp} {a t : Nat} {xs : List MV} (h : σ a = some (t, .list xs)) : ListAt σ a xs := ⟨t, .inl h⟩
section
variable {c : Cx} {i : Ix} {ρ : Lo} {σ : Hp} {X : EX}
theorem Rel.isList {f : Fm} {fr : Nat → Option Obj} {z s : Shared} (R : c.Rel f ρ σ fr z s) {a : Nat} {xs : List MV} (h : ListAt σ a xs) : ∃ its, s.heap.IsList a its ∧ All2 MV.Is xs its.toList := by
  obtain ⟨t, h | ⟨o, h⟩⟩ := h
  · obtain ⟨its, n, ho, r⟩ := R.objs _ _ _ h; exact ⟨its, ⟨_, ho, rfl, n, rfl⟩, r⟩
  · obtain ⟨ho, hc, its, n, hd, r⟩ := R.objs _ _ _ h; exact ⟨its, ⟨_, ho, hc, n, hd⟩, r⟩
theorem Rel.fresh {f : Fm} {fr : Nat → Option Obj} {z s : Shared} (R : c.Rel f ρ σ fr z s) : Fresh σ s.heap.objs.size := fun a p e => R.some_lt e
theorem Fresh.none {σ : Hp} {b : Nat} (h : Fresh σ b) : σ b = Option.none := by
  cases e : σ b with
  | none => rfl
  | some p => exact absurd (h b p e) (Nat.lt_irrefl _)
theorem grows (h : Heap) (o : Obj) : ∀ a o', h.get? a = some o' → (h.push o).get? a = some o' := fun a o' e => Heap.get?_push_of_some _ e
theorem size_ok {n : Nat} (h : n ≤ 1000000) : n ≤ sizeLine := by rw [sizeLine_eq]; omega
theorem WE.list {es pos} {Q : MV → Hp → Prop} (t : Nat) (h : WEs c i pos es ρ (fun vs σ₁ => vs.length ≤ 1000000 ∧ ∀ b, Fresh σ₁ b → Q (.ref b) (σ₁.put b t (.list vs))) X σ) : WE c i (.List es pos) ρ Q X σ := fun f fr z s a b g R =>
  List_ (wpAny_mono (h f fr z s a b g R) (fun us s₁ ⟨vs, σ₁, is, R₁, hl, h₁⟩ => wpAny_newList (by
    refine ⟨.ref s₁.heap.objs.size, _, rfl, R₁.alloc (mo := .list vs) (tk := s₁.toks) t (.of_grown (grows _ _)) (Nat.le_refl _) (fun q => by cases q) ⟨us.toArray, 0, Heap.get?_push_size _ rfl, by simpa using is⟩, h₁ _ R₁.fresh⟩) (size_ok (by rw [← is.length]; exact hl))) fun _ _ x => x)
theorem Good.modules {n : Nat} {f : Fm} {fr : Nat → Option Obj} (g : Good c n f fr) {z s : Shared} (R : c.Rel f ρ σ fr z s) {b : Nat} (h : s.heap.objs.size ≤ b) : (b == sysModules) = false := by
  have h1 := modules_low (g.at R).nolimit
  rw [beq_eq_false_iff_ne]
  intro q
  rw [q] at h
  exact absurd (Nat.lt_of_lt_of_le h1 h) (Nat.lt_irrefl _)
theorem keyIs_new {κ : Type} [DecidableEq κ] (knd : KeyKind c.prog c.w κ) (h : Heap) : KeyIs knd ({ cls := .type "dict", data := .dict #[] } : Obj) ([] : List (κ × MV)) := by
  obtain ⟨o, ho, hd⟩ := Heap.dictOf_iff.mp (Heap.DictOf.new (knd := knd) h)
  rw [Heap.get?_push_size _ rfl] at ho
  exact ⟨[], (Option.some.inj ho) ▸ hd, .nil⟩
theorem WE.sdict {pos} {Q : MV → Hp → Prop} (t : Nat) (h : ∀ b, Fresh σ b → Q (.ref b) (σ.put b t (.sdict []))) : WE c i (.Dict [] [] pos) ρ Q X σ := fun f fr z s a b g R =>
  wpAny_Dict_empty ⟨.ref s.heap.objs.size, _, rfl, R.alloc (mo := .sdict []) (tk := s.toks) t (.of_grown (grows _ _)) (Nat.le_refl _) (fun q => by cases q) ⟨g.modules R (Nat.le_refl _), _, Heap.get?_push_size _ rfl, keyIs_new _ s.heap⟩, h _ R.fresh⟩
theorem WSub.list {value slice a k xs v} {Q : MV → Hp → Prop} (hs : NoSlice slice) (hl : ListAt σ a xs) (h0 : 0 ≤ k) (h1 : k < 2 ^ 63) (hx : xs[k.toNat]? = some v) (h : Q v σ) : WSub c i value slice (.ref a) (.int k) ρ Q X σ := fun v' u iv iu f fr z s _ _ g R => by
  cases iv; obtain ⟨t, rfl⟩ := iu
  obtain ⟨its, hi, r⟩ := R.isList hl
  obtain ⟨x, hx', is⟩ := r.get hx
  exact tail_any hi.typeIs slot_list_getitem.lookup (wpAny_getItem_list hi h0 h1 (by simpa using hx') ⟨v, σ, is, R, h⟩) (hs _ _)
theorem WCall.lenList {a xs} {Q : MV → Hp → Prop} (hl : ListAt σ a xs) (hz : xs.length ≤ 1000000) (h : Q (.int xs.length) σ) : WCall c i (.con (.builtin "len")) [.ref a] ρ Q X σ := fun v us iv iu f fr z s _ _ g R => by
  cases iv
  obtain ⟨u, rfl, i1⟩ := iu.one
  cases i1
  obtain ⟨its, hi, r⟩ := R.isList hl
  have e : its.size = xs.length := by rw [r.length]; simp
  refine Calls.call_len_list hi (by rw [e]; omega) ⟨.int xs.length, σ, ⟨_, by rw [e]⟩, R.toks _, h⟩
-- changing a list
theorem WM.listAppend {a t xs} {Q : MV × List MV → Hp → Prop} (hl : σ a = some (t, .list xs)) (h : Q (.con (.builtin "list.append"), [.ref a]) σ) : WM c i (.ref a) "append" ρ Q X σ := fun v pl iv f fr z s _ _ g R => by
  cases iv
  obtain ⟨its, n, ho, r⟩ := R.objs _ _ _ hl
  exact getMethod_builtin (T := "list") ⟨_, ho, rfl⟩ PySem.F.plainAttrs_list PySem.F.slot_list_append PySem.F.type_list_append (fun b e => by cases e; exact ⟨_, ho, rfl⟩) ⟨(.con (.builtin "list.append"), [.ref a]), σ, ⟨rfl, .cons rfl .nil⟩, R, h⟩
theorem WCall.append {a t : Nat} {xs : List MV} {v : MV} {Q : MV → Hp → Prop} (hl : σ a = some (t, .list xs)) (hz : xs.length ≤ 1000000) (h : Q .none (σ.put a t (.list (xs ++ [v])))) : WCall c i (.con (.builtin "list.append")) [.ref a, v] ρ Q X σ := fun v' us iv iu f fr z s _ _ g R => by
  cases iv
  obtain ⟨u1, u2, rfl, i1, i2⟩ := iu.two
  cases i1
  obtain ⟨its, n, ho, r⟩ := R.objs _ _ _ hl
  have e : its.size = xs.length := by rw [r.length]; simp
  refine append_at ho (fun h' hs ho' => ⟨.none, _, rfl, R.upd (t' := t) (mo' := .list (xs ++ [v])) (tk := s.toks) hl rfl rfl (.of_same hs (R.neL hl)) ⟨_, _, ho', ?_⟩, h⟩) (size_ok (by rw [e]; exact hz))
  rw [Array.toList_push]
  exact r.append (.cons i2 .nil)
-- dicts by texts
theorem Rel.sdict {f : Fm} {fr : Nat → Option Obj} {z s : Shared} (R : c.Rel f ρ σ fr z s) {a t : Nat} {es : List (Str × MV)} (h : σ a = some (t, .sdict es)) : (a == sysModules) = false ∧ ∃ kvs, s.heap.DictOf (PySem.strKind c.prog c.w) a kvs ∧ All2 PR es kvs := by
  obtain ⟨l, o, ho, kvs, hd, r⟩ := R.objs _ _ _ h
  exact ⟨l, kvs, Heap.dictOf_iff.mpr ⟨o, ho, hd⟩, r⟩
theorem Rel.idict {f : Fm} {fr : Nat → Option Obj} {z s : Shared} (R : c.Rel f ρ σ fr z s) {a t ep : Nat} {es : List (Int × MV)} (h : σ a = some (t, .idict es ep)) : (a == sysModules) = false ∧ ∃ kvs, s.heap.DictOf (PySem.intKind c.prog c.w) a kvs ∧ s.heap.DictAt (PySem.intKind c.prog c.w) a kvs ep ∧ All2 PR es kvs := by
  obtain ⟨l, o, ho, ⟨kvs, hd, r⟩, q, hq⟩ := R.objs _ _ _ h
  have hk := Heap.dictOf_iff.mpr ⟨o, ho, hd⟩
  refine ⟨l, kvs, hk, ?_, r⟩
  obtain ⟨ep', o', es', h1, h2, h3, h4⟩ := hk.dictAt
  obtain rfl : o = o' := Option.some.inj (ho.symm.trans h1)
  rw [hq] at h3
  cases h3
  exact ⟨o, q, ho, h2, hq, h4⟩
theorem WC.inS {a t es k} {Q : MV → Hp → Prop} (hd : σ a = some (t, .sdict es)) (h : Q (.bool (getK es k).isSome) σ) : WC c i .In (.str k) (.ref a) ρ Q X σ := fun v u iv iu f fr z s _ _ g R => by
  obtain ⟨tk, rfl⟩ := iv; cases iu
  obtain ⟨l, kvs, hk, r⟩ := Rel.sdict R hd
  refine wpAny_in_of (PySem.strKind_is _ _ k tk) l hk.mapOf ⟨.bool _, σ, rfl, R.toks _, ?_⟩
  rw [getK_isSome r]; exact h
theorem WC.notInS {a t es k} {Q : MV → Hp → Prop} (hd : σ a = some (t, .sdict es)) (h : Q (.bool (!(getK es k).isSome)) σ) : WC c i .NotIn (.str k) (.ref a) ρ Q X σ := fun v u iv iu f fr z s _ _ g R => by
  obtain ⟨tk, rfl⟩ := iv; cases iu
  obtain ⟨l, kvs, hk, r⟩ := Rel.sdict R hd
  refine wpAny_notIn_of (PySem.strKind_is _ _ k tk) l hk.mapOf ⟨.bool _, σ, rfl, R.toks _, ?_⟩
  rw [getK_isSome r]; exact h
theorem WSub.sdict {value slice a t es k v} {Q : MV → Hp → Prop} (hs : NoSlice slice) (hd : σ a = some (t, .sdict es)) (hv : getK es k = some v) (h : Q v σ) : WSub c i value slice (.ref a) (.str k) ρ Q X σ := fun v' u iv iu f fr z s _ _ g R => by
  cases iv; obtain ⟨tk, rfl⟩ := iu
  obtain ⟨l, kvs, hk, r⟩ := Rel.sdict R hd
  obtain ⟨x, hx, is⟩ := getK_some r hv
  exact tail_any hk.typeIs slot_dict_getitem.lookup (wpAny_getItem_of (PySem.strKind_is _ _ k tk) hk.mapOf hx ⟨v, σ, is, R.toks _, h⟩) (hs _ _)
theorem WPut.sdict {a t : Nat} {es : List (Str × MV)} {k : Str} {v : MV} {Q : Unit → Hp → Prop} (hd : σ a = some (t, .sdict es)) (hz : es.length ≤ 1000000) (h : Q () (σ.put a t (.sdict (putK es k v)))) : WPut c i (.ref a) (.str k) v ρ Q X σ := fun v' y u iv iy iu f fr z s _ _ g R => by
  cases iv; obtain ⟨tk, rfl⟩ := iy
  obtain ⟨l, kvs, hk, r⟩ := Rel.sdict R hd
  refine wpAny_setItem_pairs (PySem.strKind_is _ _ k tk) hk (fun h' hk' hs => ⟨(), _, rfl, R.upd (t' := t) (mo' := .sdict (putK es k v)) hd rfl rfl (.of_same hs (R.neL hd)) ⟨l, ?_⟩, h⟩) (size_ok (by rw [← r.length]; exact hz))
  obtain ⟨o, ho, hd'⟩ := Heap.dictOf_iff.mp hk'
  exact ⟨o, ho, _, hd', putK_all r iu⟩
end
end Mine
open PySem PySem.W PyProof.Rows
namespace Mine
open Classical in
noncomputable def addFr (fr : Nat → Option Obj) (I : Nat) (o : Obj) : Nat → Option Obj := fun a => if a = I then some o else fr a
theorem addFr_self {fr : Nat → Option Obj} {I : Nat} {o : Obj} : addFr fr I o I = some o := by simp [addFr]
theorem addFr_ne {fr : Nat → Option Obj} {I a : Nat} {o : Obj} (h : a ≠ I) : addFr fr I o a = fr a := by simp [addFr, h]
structure Alien (f : Fm) (σ : Hp) (fr : Nat → Option Obj) (I : Nat) : Prop where
  fr : fr I = none
  foot : ¬ Foot σ I
  L : I ≠ f.env.locals
  cells : ∀ x k, (x, k) ∈ f.env.cells → I ≠ k
theorem Good.add {c : Cx} {n : Nat} {f : Fm} {fr : Nat → Option Obj} (g : Good c n f fr) {I : Nat} {o : Obj} (hI : fr I = none) : Good c n f (addFr fr I o) := by
  have k : ∀ a o', fr a = some o' → addFr fr I o a = some o' := fun a o' e => by
    rw [addFr_ne (fun q => by subst q; rw [hI] at e; cases e)]; exact e
  exact {
    ok := g.ok, base := fun a o' e => k a o' (g.base a o' e), apart := g.apart, K := g.K, top := g.top, kind := g.kind, globals := g.globals, celled := g.celled, cellk := g.cellk, cellnd := g.cellnd, builtins := g.builtins
    room := g.room, units := g.units, frames := g.frames, topk := g.topk, low := g.low, slots := g.slots
    topL := by
      obtain ⟨L, h1, h2, h3⟩ := g.topL
      exact ⟨L, h1, h2.imp id fun ⟨h4, o', h5, h6⟩ => ⟨h4, o', k _ _ h5, h6⟩, h3⟩
    slotIn := fun a ha => let ⟨o', e⟩ := g.slotIn a ha; ⟨o', k _ _ e⟩
    home := g.home
    outer := fun env he => let ⟨h1, L, o', h2, h3, h4, h5⟩ := g.outer env he; ⟨h1, L, o', h2, h3, k _ _ h4, h5⟩ }
theorem Rel.add {c : Cx} {f : Fm} {ρ : Lo} {σ : Hp} {fr : Nat → Option Obj} {z s : Shared} (R : c.Rel f ρ σ fr z s) {I : Nat} {o : Obj} (al : Alien f σ fr I) (ho : s.heap.get? I = some o) : c.Rel f ρ σ (addFr fr I o) z s where
  same := R.same
  keep := fun a o' e => by
    by_cases q : a = I
    · subst q; rw [addFr_self] at e; cases e; exact ⟨o.slots, ho, fun _ => rfl⟩
    · rw [addFr_ne q] at e; exact R.keep a o' e
  objs := R.objs
  wf := R.wf
  apart := fun a h => by
    have q : a ≠ I := fun q => al.foot (q ▸ h)
    rw [addFr_ne q]; exact R.apart a h
  ns := R.ns
  cel := R.cel
  frame := ⟨by rw [addFr_ne (Ne.symm al.L)]; exact R.frame.1, fun x k hk => by rw [addFr_ne (Ne.symm (al.cells x k hk))]; exact R.frame.2 x k hk⟩
  kl := R.kl
theorem Rel.drop {c : Cx} {f : Fm} {ρ : Lo} {σ : Hp} {fr : Nat → Option Obj} {z s : Shared} {I : Nat} {o : Obj} (hI : fr I = none) (R : c.Rel f ρ σ (addFr fr I o) z s) (hs : I ∉ f.slotted) : c.Rel f ρ σ fr z s ∧ Alien f σ fr I ∧ s.heap.get? I = some o := by
  have k : ∀ a o', fr a = some o' → addFr fr I o a = some o' := fun a o' e => by
    rw [addFr_ne (fun q => by subst q; rw [hI] at e; cases e)]; exact e
  have back : ∀ a, addFr fr I o a = none → a ≠ I ∧ fr a = none := fun a e => by
    by_cases q : a = I
    · subst q; rw [addFr_self] at e; cases e
    · rw [addFr_ne q] at e; exact ⟨q, e⟩
  refine ⟨⟨R.same, fun a o' e => R.keep a o' (k a o' e), R.objs, R.wf, fun a h => ⟨(back a (R.apart a h).1).2, (R.apart a h).2⟩, R.ns, R.cel, ⟨(back _ R.frame.1).2, fun x c' hc => ⟨(back _ (R.frame.2 x c' hc).1).2, (R.frame.2 x c' hc).2⟩⟩, R.kl⟩, ?_, ?_⟩
  · exact ⟨hI, fun h => (back I (R.apart I h).1).1 rfl, fun q => (back _ R.frame.1).1 q.symm, fun x c' hc q => (back _ (R.frame.2 x c' hc).1).1 q.symm⟩
  · obtain ⟨sl, e1, e2⟩ := R.keep I o addFr_self
    rw [e1, e2 hs]
theorem Rel.alien {c : Cx} {f : Fm} {ρ : Lo} {σ : Hp} {fr : Nat → Option Obj} {z s : Shared} (R : c.Rel f ρ σ fr z s) {I : Nat} (al : Alien f σ fr I) {h' : Heap} {tk : Nat} (hk : ∀ t mo, σ I ≠ some (t, mo)) (k : ∀ a o, a ≠ I → s.heap.get? a = some o → h'.get? a = some o) :
    c.Rel f ρ σ fr z { s with heap := h', toks := tk } where
  same := R.same
  keep := fun a o e => let ⟨sl, e1, e2⟩ := R.keep a o e; ⟨sl, k a _ (fun q => by subst q; rw [al.fr] at e; cases e) e1, e2⟩
  objs := fun a t mo e => (R.objs a t mo e).of_same (fun o e' => k a o (fun q => by subst q; exact hk t mo e) e') fun d o hi ed e' => k d o (fun q => by
    subst ed
    cases mo <;> first | cases hi | skip
    exact al.foot (q ▸ .inr ⟨_, _, _, e⟩)) e'
  wf := R.wf
  apart := R.apart
  ns := by obtain ⟨m, ⟨o, es, ep, e, r⟩, q⟩ := R.ns; exact ⟨m, ⟨o, es, ep, k _ _ (Ne.symm al.L) e, r⟩, q⟩
  cel := fun x c' hc => by obtain ⟨o, v, e, r⟩ := R.cel x c' hc; exact ⟨o, v, k _ _ (Ne.symm (al.cells x c' hc)) e, r⟩
  frame := R.frame
  kl := R.kl
structure Steps (c : Cx) (I : Nat) (It : Nat → Heap → Prop) (items : List MV) (still : Hp → Prop) : Prop where
  obj : ∀ k h, It k h → ∃ o, h.get? I = some o ∧ o.cls ≠ .type "list"
  move : ∀ k h h', It k h → (∀ o, h.get? I = some o → h'.get? I = some o) → It k h'
  item : ∀ {k v f ρ σ fr z s A} {Q : Option Value → Shared → Prop} {E : Value → Shared → Prop}, c.Rel f ρ σ fr z s → still σ → It k s.heap → items[k]? = some v →
    (∀ u h' tk, v.Is u → It (k + 1) h' → (∀ a o, a ≠ I → s.heap.get? a = some o → h'.get? a = some o) → Q (some u) { s with heap := h', toks := tk }) → wpAny c.M A (pyNext (.ref I)) Q E s
  self : ∀ {k s A} {Q : Value → Shared → Prop} {E : Value → Shared → Prop}, It k s.heap → Q (.ref I) s → wpAny c.M A (pyIter (.ref I)) Q E s
  done : ∀ {k f ρ σ fr z s A} {Q : Option Value → Shared → Prop} {E : Value → Shared → Prop}, c.Rel f ρ σ fr z s → A.handled = none → still σ → It k s.heap → items[k]? = none →
    (∀ h' tk, (∀ a o, a ≠ I → s.heap.get? a = some o → h'.get? a = some o) → Q none { s with heap := h', toks := tk }) → wpAny c.M A (pyNext (.ref I)) Q E s
def WFor (c : Cx) (i : Ix) (x : Str) (body : List Stmt) (still : Hp → Prop) (Q : MF → Lo → Hp → Prop) : List MV → Lo → Hp → Prop
  | [], ρ, σ => still σ ∧ Q .next ρ σ
  | v :: vs, ρ, σ => still σ ∧ WSt c i x v ρ (fun ρ₁ σ₁ => WSs c i body ρ₁ (fun m ρ₂ σ₂ => match m with
      | .next | .cont => WFor c i x body still Q vs ρ₂ σ₂
      | .brk => Q .next ρ₂ σ₂
      | .ret u => Q (.ret u) ρ₂ σ₂) noSX σ₁) noSX σ
theorem noSX_elim {c : Cx} {f : Fm} {fr : Nat → Option Obj} {z : Shared} {v : Value} {s : Shared} {P : Prop} (h : XPost c f fr z noSX v s) : P := let ⟨_, _, _, _, _, _, _, q⟩ := h; q.elim
theorem for_code {c : Cx} {i : Ix} (hn : i.hn = true) {x : Str} {px : Pos} {body : List Stmt} {I : Nat} {It : Nat → Heap → Prop} {items : List MV} {still : Hp → Prop} (T : Steps c I It items still) {ρ : Lo} {σ : Hp} {Q : MF → Lo → Hp → Prop} {X : Value → Shared → Prop}
    {f : Fm} {fr : Nat → Option Obj} {z s : Shared} (a : f.env.scope = i.sc) (b : i.hn = true → f.A.handled = none) (g : Good c i.n f fr) (R : c.Rel f ρ σ fr z s) (al : Alien f σ fr I) (it : It 0 s.heap) (h : WFor c i x body still Q items ρ σ) :
    codeAny c.M f.A (.forLoop (.Name x px) (.ref I) body [] f.env) (fun r s' => match r with
      | .ok fl => ∃ m ρ' σ', MF.Is m fl ∧ c.Rel f ρ' σ' fr z s' ∧ Q m ρ' σ'
      | .error e => X e s') s := by
  have nI : I ∉ f.slotted := fun h => by obtain ⟨o, e⟩ := g.slotIn I h; rw [al.fr] at e; cases e
  refine codeAny_forLoop (fun m s' => ∃ k ρ' σ', m + k = items.length ∧ It k s'.heap ∧ c.Rel f ρ' σ' fr z s' ∧ Alien f σ' fr I ∧ WFor c i x body still Q (items.drop k) ρ' σ') ?_ items.length ⟨0, ρ, σ, by simp, it, R, al, by simpa using h⟩
  rintro m s' ⟨k, ρ', σ', hmk, it', R', al', h'⟩
  have hkl : ∀ t mo, σ' I ≠ some (t, mo) := fun t mo e => by
    cases q : mo.isK with
    | false => exact al'.foot (.of_some e q)
    | true =>
      cases mo <;> first | cases q | skip
      obtain ⟨h1, h2, _⟩ := R'.objs _ _ _ e
      obtain ⟨o, h3, h4⟩ := T.obj _ _ it'
      rw [h3] at h1; cases h1; exact h4 h2
  cases e : items[k]? with
  | none =>
    have el : items.drop k = [] := by
      rw [List.drop_eq_nil_iff]
      exact List.getElem?_eq_none_iff.mp e
    rw [el] at h'
    refine T.done R' (b hn) h'.1 it' e fun h₁ tk k₁ => ?_
    refine wpAny_execs_nil ?_
    exact ⟨.next, ρ', σ', rfl, R'.alien (tk := tk) al' hkl k₁, h'.2⟩
  | some v =>
    obtain ⟨hlt, rfl⟩ := List.getElem?_eq_some_iff.mp e
    rw [List.drop_eq_getElem_cons hlt] at h'
    refine T.item R' h'.1 it' e fun u h₁ tk is it₁ k₁ => ?_
    have R₁ := R'.alien (tk := tk) al' hkl k₁
    obtain ⟨o, ho, hoc⟩ := T.obj _ _ it₁
    have R₂ := R₁.add al' ho
    refine wpAny_assign_Name (wuse4 (h'.2 u is f _ z _ a b (g.add al.fr) R₂) (fun _ s₂ ρ₂ σ₂ R₃ h₂ => ?_) fun _ _ x => noSX_elim x)
    refine wuse6 (h₂ f _ z s₂ a b (g.add al.fr) R₃) (fun fl s₃ mf ρ₃ σ₃ is₃ R₄ h₃ => ?_) fun _ _ x => noSX_elim x
    obtain ⟨R₅, al₅, ho₅⟩ := Rel.drop al.fr R₄ nI
    have again : WFor c i x body still Q (items.drop (k + 1)) ρ₃ σ₃ → ∃ m', m' < m ∧ ∃ k ρ' σ', m' + k = items.length ∧ It k s₃.heap ∧ c.Rel f ρ' σ' fr z s₃ ∧ Alien f σ' fr I ∧ WFor c i x body still Q (items.drop k) ρ' σ' := fun h₃ => by
      refine ⟨m - 1, by omega, k + 1, ρ₃, σ₃, by omega, T.move _ _ _ it₁ fun o' e' => ?_, R₅, al₅, h₃⟩
      rw [ho] at e'; cases e'; exact ho₅
    cases mf with
    | next => cases is₃; exact again h₃
    | cont => cases is₃; exact again h₃
    | brk => cases is₃; exact ⟨.next, ρ₃, σ₃, rfl, R₅, h₃⟩
    | ret v => obtain ⟨u', rfl, is'⟩ := is₃; exact ⟨.ret v, ρ₃, σ₃, ⟨u', rfl, is'⟩, R₅, h₃⟩
theorem Steps.list (c : Cx) {I a : Nat} (hne : a ≠ I) (xs : List MV) : Steps c I (fun k h => h.IsListIter I a k) xs (fun σ => ListAt σ a xs) where
  obj := fun k h ⟨o, h1, h2, _⟩ => ⟨o, h1, by rw [h2]; decide⟩
  move := fun k h h' ⟨o, h1, h2⟩ m => ⟨o, m o h1, h2⟩
  item := fun R st it e hQ => by
    obtain ⟨its, hi, r⟩ := R.isList st
    obtain ⟨u, hu, is⟩ := r.get e
    exact wpAny_pyNext_list_item it hi (by simpa using hu) fun h' it' hs => hQ u h' _ is it' fun a o ne ho => (hs.2 a ne).trans ho
  self := fun it hQ => wpAny_pyIter_listiter it hQ
  done := fun R hh st it e hQ => by
    obtain ⟨its, hi, r⟩ := R.isList st
    refine wpAny_pyNext_list_end hh it hi ?_ fun h' hs => hQ h' _ hs
    have := r.length
    rw [Array.getElem?_eq_none_iff]
    rw [List.getElem?_eq_none_iff] at e
    simp at this
    omega
def upTo (lo hi : Int) : List MV := (List.range (hi - lo).toNat).map fun (k : Nat) => .int (lo + (k : Int))
theorem Steps.range (c : Cx) {I : Nat} (lo hi : Int) : Steps c I (fun k h => IsRangeIter h I (lo + (k : Nat)) (((hi - lo).toNat : Int) - (k : Nat)) 1) (upTo lo hi) (fun _ => True) where
  obj := fun k h e => ⟨_, e, by show Value.type "range_iterator" ≠ .type "list"; decide⟩
  move := fun k h h' e m => m _ e
  item := fun {k v f ρ σ fr z s A Q E} R st it e hQ => by
    unfold upTo at e
    rw [List.getElem?_map, Option.map_eq_some_iff] at e
    obtain ⟨j, e1, rfl⟩ := e
    obtain ⟨hj, e2⟩ := List.getElem?_eq_some_iff.mp e1
    rw [List.getElem_range] at e2
    subst e2
    rw [List.length_range] at hj
    refine wpAny_pyNext_range_item it (by omega) fun h' it' hs => hQ _ h' _ ⟨_, rfl⟩ ?_ fun a o ne ho => (hs.2 a ne).trans ho
    have e1 : lo + ((k + 1 : Nat) : Int) = lo + (k : Int) + 1 := by omega
    have e2 : ((hi - lo).toNat : Int) - ((k + 1 : Nat) : Int) = ((hi - lo).toNat : Int) - (k : Int) - 1 := by omega
    rw [e1, e2]; exact it'
  self := fun it hQ => wpAny_pyIter_rangeiter it hQ
  done := fun {k f ρ σ fr z s A Q E} R hh st it e hQ => by
    refine wpAny_pyNext_range_end hh it ?_ fun h' hs => hQ h' _ hs
    rw [List.getElem?_eq_none_iff] at e
    simp [upTo] at e
    omega
theorem isInt_shape {c : Cx} {k : Int} {v : Value} (h : (PySem.intKind c.prog c.w).is k v = true) : ∃ t, v = .int k t := by
  cases v <;> simp [PySem.intKind, Value.isInt] at h
  subst h
  exact ⟨_, rfl⟩
theorem Steps.idict (c : Cx) {I a : Nat} (es : List (Int × MV)) (ep : Nat) (hne : a ≠ I) : Steps c I (fun k h => h.IsKeyIter I a k es.length ep) (es.map fun p => .int p.1) (fun σ => ∃ t, σ a = some (t, .idict es ep)) where
  obj := fun k h ⟨o, h1, h2, _⟩ => ⟨o, h1, by rw [h2]; decide⟩
  move := fun k h h' ⟨o, h1, h2⟩ m => ⟨o, m o h1, h2⟩
  item := fun {k v f ρ σ fr z s A Q E} R st it e hQ => by
    obtain ⟨t, st⟩ := st
    obtain ⟨l, kvs, _, hD, r⟩ := Rel.idict R st
    rw [List.getElem?_map, Option.map_eq_some_iff] at e
    obtain ⟨p, e1, rfl⟩ := e
    obtain ⟨q, hq, hpq⟩ := r.get e1
    have it2 : s.heap.IsKeyIter I a k kvs.length ep := by rw [← r.length]; exact it
    refine wpAny_pyNext_dict_item it2 hD (k := q.1) (v := q.2) hq fun key h' hk it' hs => ?_
    rw [← hpq.1] at hk
    exact hQ key h' _ (isInt_shape hk) (by show h'.IsKeyIter I a (k + 1) es.length ep; rw [r.length]; exact it') fun a o ne ho => (hs.2 a ne).trans ho
  self := fun it hQ => wpAny_pyIter_keyiter it hQ
  done := fun {k f ρ σ fr z s A Q E} R hh st it e hQ => by
    obtain ⟨t, st⟩ := st
    obtain ⟨l, kvs, _, hD, r⟩ := Rel.idict R st
    have it2 : s.heap.IsKeyIter I a k kvs.length ep := by rw [← r.length]; exact it
    refine wpAny_pyNext_dict_end hh it2 hD ?_ fun h' hs => hQ h' _ hs
    rw [List.getElem?_map, Option.map_eq_none_iff, List.getElem?_eq_none_iff, r.length] at e
    exact List.getElem?_eq_none_iff.mpr e
theorem Rel.edict {c : Cx} {f : Fm} {ρ : Lo} {σ : Hp} {fr : Nat → Option Obj} {z s : Shared} (R : c.Rel f ρ σ fr z s) {a t ep : Nat} {es : List (Str × MV)} (h : σ a = some (t, .edict es ep)) : (a == sysModules) = false ∧ ∃ kvs, s.heap.DictOf (PySem.strKind c.prog c.w) a kvs ∧ s.heap.DictAt (PySem.strKind c.prog c.w) a kvs ep ∧ All2 PR es kvs := by
  obtain ⟨l, o, ho, ⟨kvs, hd, r⟩, q, hq⟩ := R.objs _ _ _ h
  have hk := Heap.dictOf_iff.mpr ⟨o, ho, hd⟩
  refine ⟨l, kvs, hk, ?_, r⟩
  obtain ⟨ep', o', es', h1, h2, h3, h4⟩ := hk.dictAt
  obtain rfl : o = o' := Option.some.inj (ho.symm.trans h1)
  rw [hq] at h3
  cases h3
  exact ⟨o, q, ho, h2, hq, h4⟩
theorem isText_shape {c : Cx} {k : Str} {v : Value} (h : (PySem.strKind c.prog c.w).is k v = true) : ∃ t, v = .str k t := by
  cases v <;> simp [PySem.strKind, Value.isStrOf] at h
  subst h
  exact ⟨_, rfl⟩
theorem Steps.edict (c : Cx) {I a : Nat} (es : List (Str × MV)) (ep : Nat) (hne : a ≠ I) : Steps c I (fun k h => h.IsKeyIter I a k es.length ep) (es.map fun p => .str p.1) (fun σ => ∃ t, σ a = some (t, .edict es ep)) where
  obj := fun k h ⟨o, h1, h2, _⟩ => ⟨o, h1, by rw [h2]; decide⟩
  move := fun k h h' ⟨o, h1, h2⟩ m => ⟨o, m o h1, h2⟩
  item := fun {k v f ρ σ fr z s A Q E} R st it e hQ => by
    obtain ⟨t, st⟩ := st
    obtain ⟨l, kvs, _, hD, r⟩ := Rel.edict R st
    rw [List.getElem?_map, Option.map_eq_some_iff] at e
    obtain ⟨p, e1, rfl⟩ := e
    obtain ⟨q, hq, hpq⟩ := r.get e1
    have it2 : s.heap.IsKeyIter I a k kvs.length ep := by rw [← r.length]; exact it
    refine wpAny_pyNext_dict_item it2 hD (k := q.1) (v := q.2) hq fun key h' hk it' hs => ?_
    rw [← hpq.1] at hk
    exact hQ key h' _ (isText_shape hk) (by show h'.IsKeyIter I a (k + 1) es.length ep; rw [r.length]; exact it') fun a o ne ho => (hs.2 a ne).trans ho
  self := fun it hQ => wpAny_pyIter_keyiter it hQ
  done := fun {k f ρ σ fr z s A Q E} R hh st it e hQ => by
    obtain ⟨t, st⟩ := st
    obtain ⟨l, kvs, _, hD, r⟩ := Rel.edict R st
    have it2 : s.heap.IsKeyIter I a k kvs.length ep := by rw [← r.length]; exact it
    refine wpAny_pyNext_dict_end hh it2 hD ?_ fun h' hs => hQ h' _ hs
    rw [List.getElem?_map, Option.map_eq_none_iff, List.getElem?_eq_none_iff, r.length] at e
    exact List.getElem?_eq_none_iff.mpr e
theorem Steps.text (c : Cx) {I : Nat} (x : Str) (t : Tok) : Steps c I (fun k h => h.IsStrIter I "str_ascii_iterator" x t k) (x.cps.toList.map fun n => .str ⟨#[n]⟩) (fun _ => True) where
  obj := fun k h ⟨o, h1, h2, _⟩ => ⟨o, h1, by rw [h2]; decide⟩
  move := fun k h h' ⟨o, h1, h2⟩ m => ⟨o, m o h1, h2⟩
  item := fun {k v f ρ σ fr z s A Q E} R st it e hQ => by
    rw [List.getElem?_map, Option.map_eq_some_iff] at e
    obtain ⟨n, e1, rfl⟩ := e
    exact wpAny_pyNext_ascii_item it (by simpa using e1) fun h' it' hs => hQ _ h' _ ⟨_, rfl⟩ it' fun a o ne ho => (hs.2 a ne).trans ho
  self := fun it hQ => wpAny_pyIter_striter_ascii it hQ
  done := fun {k f ρ σ fr z s A Q E} R hh st it e hQ => by
    rw [List.getElem?_map, Option.map_eq_none_iff] at e
    exact wpAny_pyNext_ascii_end hh it (by simpa using e) fun h' hs => hQ h' _ hs
section
variable {c : Cx} {i : Ix} {ρ : Lo} {σ : Hp} {X : SX} {Q : MF → Lo → Hp → Prop}
abbrev NotSet (e : Expr) : Prop := ∀ env x, foldedSetIterable e env x = pure x
inductive Iterable : Hp → MV → List MV → (Hp → Prop) → Prop
  | list {σ a xs} : ListAt σ a xs → Iterable σ (.ref a) xs (fun σ => ListAt σ a xs)
  | range {σ a t lo hi} : σ a = some (t, .range lo hi) → -1000000000000 ≤ lo → lo ≤ 1000000000000 → -1000000000000 ≤ hi → hi ≤ 1000000000000 → Iterable σ (.ref a) (upTo lo hi) (fun _ => True)
  | idict {σ a t es ep} : σ a = some (t, .idict es ep) → Iterable σ (.ref a) (es.map fun p => .int p.1) (fun σ => ∃ t, σ a = some (t, .idict es ep))
  | edict {σ a t es ep} : σ a = some (t, .edict es ep) → Iterable σ (.ref a) (es.map fun p => .str p.1) (fun σ => ∃ t, σ a = some (t, .edict es ep))
  | text {σ x} : x.cps.all (· < 128) = true → Iterable σ (.str x) (x.cps.toList.map fun n => .str ⟨#[n]⟩) (fun _ => True)
theorem fitsA {x : Int} (a : -1000000000000 ≤ x) (b : x ≤ 1000000000000) : -2 ^ 63 ≤ x ∧ x < 2 ^ 63 := by omega
theorem iter_start {f : Fm} {fr : Nat → Option Obj} {z s : Shared} {A : Around} {v : MV} {u : Value} {xs : List MV} {still : Hp → Prop} {E : Value → Shared → Prop} {P : Value → Shared → Prop} (R : c.Rel f ρ σ fr z s) (itb : Iterable σ v xs still) (is : v.Is u)
    (h : ∀ I It h₂, Steps c I It xs still → s.heap.objs.size ≤ I → I < h₂.objs.size → (∀ b o, s.heap.get? b = some o → h₂.get? b = some o) → It 0 h₂ → P (.ref I) { s with heap := h₂ }) : wpAny c.M A (pyIter u) P E s := by
  cases itb with
  | @list l xs hl =>
    cases is
    obtain ⟨its, hi, r⟩ := R.isList hl
    have hlt : l < s.heap.objs.size := by obtain ⟨o, ho, _⟩ := hi; exact Heap.lt_size ho
    exact wpAny_pyIter_list hi (h _ _ _ (Steps.list c (Nat.ne_of_lt hlt) xs) (Nat.le_refl _) (by rw [Heap.size_push]; exact Nat.lt_succ_self _) (grows _ _) ⟨_, Heap.get?_push_size _ rfl, rfl, rfl⟩)
  | @range l t lo hi hr h1 h2 h3 h4 =>
    cases is
    obtain ⟨t1, t2, t3, hr'⟩ := R.objs _ _ _ hr
    refine wpAny_pyIter_range hr' ?_ (h _ _ _ (Steps.range c lo hi) (Nat.le_refl _) (by rw [Heap.size_push]; exact Nat.lt_succ_self _) (grows _ _) ?_)
    · unfold Builtin.Range.small
      rw [rangeSize_nat]
      rw [if_pos (by decide : (1 : Int) > 0)]
      simp only [Bool.and_eq_true, Bool.or_eq_true, Builtin.Range.rangeFitsLong, decide_eq_true_eq]
      refine ⟨⟨⟨⟨?_, ?_⟩, ?_⟩, ?_⟩, .inr ?_⟩ <;> first | exact fitsA h1 h2 | exact fitsA h3 h4 | decide | (constructor <;> omega)
    · have e := Heap.get?_push_size s.heap (o := { cls := .type "range_iterator", data := .fields #[rawInt lo, rawInt (Builtin.Range.rangeSize lo hi 1), rawInt 1] }) rfl
      rw [rangeSize_nat] at e ⊢
      show IsRangeIter _ _ _ _ _
      have e1 : lo + ((0 : Nat) : Int) = lo := Int.add_zero lo
      have e2 : ((hi - lo).toNat : Int) - ((0 : Nat) : Int) = ((hi - lo).toNat : Int) := Int.sub_zero _
      rw [e1, e2]
      exact e
  | @idict l t es ep hd =>
    cases is
    obtain ⟨hl, kvs, _, hD, r⟩ := Rel.idict R hd
    have hlt : l < s.heap.objs.size := R.some_lt hd
    refine wpAny_pyIter_dict hl hD (h _ _ _ (Steps.idict c es ep (Nat.ne_of_lt hlt)) (Nat.le_refl _) (by rw [Heap.size_push]; exact Nat.lt_succ_self _) (grows _ _) ?_)
    show Heap.IsKeyIter _ _ _ _ _ _
    rw [r.length]
    exact ⟨_, Heap.get?_push_size _ rfl, rfl, rfl⟩
  | @edict l t es ep hd =>
    cases is
    obtain ⟨hl, kvs, _, hD, r⟩ := Rel.edict R hd
    have hlt : l < s.heap.objs.size := R.some_lt hd
    refine wpAny_pyIter_dict hl hD (h _ _ _ (Steps.edict c es ep (Nat.ne_of_lt hlt)) (Nat.le_refl _) (by rw [Heap.size_push]; exact Nat.lt_succ_self _) (grows _ _) ?_)
    show Heap.IsKeyIter _ _ _ _ _ _
    rw [r.length]
    exact ⟨_, Heap.get?_push_size _ rfl, rfl, rfl⟩
  | @text x hx =>
    obtain ⟨t, rfl⟩ := is
    exact wpAny_pyIter_ascii hx (h _ _ _ (Steps.text c x t) (Nat.le_refl _) (by rw [Heap.size_push]; exact Nat.lt_succ_self _) (grows _ _) ⟨_, Heap.get?_push_size _ rfl, rfl, rfl⟩)
theorem Rel.alienAt {f : Fm} {fr : Nat → Option Obj} {z s : Shared} (R : c.Rel f ρ σ fr z s) {I : Nat} (h : s.heap.objs.size ≤ I) {σ' : Hp} (hf : ¬ Foot σ' I) : Alien f σ' fr I where
  fr := by
    cases e : fr I with
    | none => rfl
    | some o => exact absurd (R.fr_lt e) (Nat.not_lt.mpr h)
  foot := hf
  L := fun q => by have h' := R.L_lt; rw [show f.L = I from q.symm] at h'; exact absurd h' (Nat.not_lt.mpr h)
  cells := fun x k hk q => by have h' := R.cel_lt hk; rw [← q] at h'; exact absurd h' (Nat.not_lt.mpr h)
theorem Rel.alienNew {f : Fm} {fr : Nat → Option Obj} {z s : Shared} (R : c.Rel f ρ σ fr z s) {I : Nat} (h : s.heap.objs.size ≤ I) : Alien f σ fr I := R.alienAt h fun hf => absurd (R.foot_lt hf) (Nat.not_lt.mpr h)
theorem WS.for {x px it body pos} (hn : i.hn = true) (hs : NotSet it) (h : WE c i it ρ (fun v σ₁ => ∃ xs still, Iterable σ₁ v xs still ∧ WFor c i x body still Q xs ρ σ₁) (X.ex ρ) σ) :
    WS c i (.For (.Name x px) it body [] pos) ρ Q X σ := fun f fr z s a b g R => by
  refine wpAny_For (wpAny_mono (h f fr z s a b g R) (fun u s₁ ⟨v, σ₁, is, R₁, xs, still, itb, h₁⟩ => ?_) fun _ _ x => Ex.at x) (hs _)
  refine iter_start R₁ itb is fun I It h₂ T hI _ kp it => ?_
  have R₂ := R₁.grown (tk := s₁.toks) kp
  exact codeAny_mono (for_code hn T (X := fun _ _ => False) a b g R₂ (R₁.alienNew hI) it h₁) fun r s' q => by
      cases r with
      | ok fl => exact q
      | error e => exact q.elim
theorem Alien.none {n : Nat} {f : Fm} {fr : Nat → Option Obj} {z s : Shared} (g : Good c n f fr) (R : c.Rel f ρ σ fr z s) {I : Nat} (al : Alien f σ fr I) : ∀ t mo, σ I ≠ some (t, mo) := fun t mo e => by
  cases q : mo.isK with
  | false => exact al.foot (.of_some e q)
  | true =>
    cases mo <;> first | cases q | skip
    have h1 := g.base _ _ (R.kl _ _ _ _ e)
    rw [al.fr] at h1; cases h1
end
end Mine
open PySem PySem.W PyProof.Rows
namespace Mine
section
variable {c : Cx} {i : Ix} {ρ : Lo} {σ : Hp} {X : EX}
theorem WCall.range1 {n : Int} {Q : MV → Hp → Prop} (t : Nat) (h : ∀ b, Fresh σ b → Q (.ref b) (σ.put b t (.range 0 n))) : WCall c i (.con (.type "range")) [.int n] ρ Q X σ := fun v us iv iu f fr z s _ _ g R => by
  cases iv
  obtain ⟨u, rfl, tk, rfl⟩ := iu.one
  refine call_range_1 ⟨.ref s.heap.objs.size, _, rfl, R.alloc (mo := .range 0 n) t (.of_grown (grows _ _)) (Nat.le_refl _) (fun q => by cases q) ⟨_, _, _, Heap.get?_push_size _ rfl⟩, h _ R.fresh⟩
theorem WCall.max2 {m n : Int} {Q : MV → Hp → Prop} (hn : i.hn = true) (h : Q (.int (if n > m then n else m)) σ) : WCall c i (.con (.builtin "max")) [.int m, .int n] ρ Q X σ := fun v us iv iu f fr z s _ hh g R => by
  cases iv
  obtain ⟨u, u', rfl, ⟨tk, rfl⟩, ⟨tk', rfl⟩⟩ := iu.two
  refine max_two_ints (hh hn) fun h' tk k => ⟨.int (if n > m then n else m), σ, ?_, R.grown k, h⟩
  split
  · exact ⟨_, rfl⟩
  · exact ⟨_, rfl⟩
theorem WCall.intB {b : Bool} {Q : MV → Hp → Prop} (h : Q (.int (if b then 1 else 0)) σ) : WCall c i (.con (.type "int")) [.bool b] ρ Q X σ := fun v us iv iu f fr z s _ hh g R => by
  cases iv
  obtain ⟨u, rfl, i1⟩ := iu.one
  cases i1
  exact call_int_bool ⟨.int _, σ, ⟨_, rfl⟩, R.toks _, h⟩
theorem WCall.listKeys {a t' : Nat} {es : List (Str × MV)} {Q : MV → Hp → Prop} (t : Nat) (hn : i.hn = true) (hd : σ a = some (t', .sdict es)) (hz : es.length ≤ 1000000) (h : ∀ b, Fresh σ b → Q (.ref b) (σ.put b t (.list (es.map fun p => .str p.1)))) : WCall c i (.con (.type "list")) [.ref a] ρ Q X σ := fun v us iv iu f fr z s _ hh g R => by
  cases iv
  obtain ⟨u, rfl, i1⟩ := iu.one
  cases i1
  obtain ⟨l, kvs, hk, r⟩ := Rel.sdict R hd
  obtain ⟨ep, hat⟩ := hk.dictAt
  refine kdl_call (kdl_dict (knd := PySem.strKind c.prog c.w) (kvs := kvs) (ep := ep) l) (hh hn) hat (size_ok (by rw [← r.length]; exact hz)) fun h' tk acc' c' kp hD hacc => ?_
  refine ⟨.ref s.heap.objs.size, _, rfl, R.alloc (mo := .list (es.map fun p => .str p.1)) t (.of_grown kp) (Nat.le_refl _) (fun q => by cases q) ⟨acc', c', hD, ?_⟩, h _ R.fresh⟩
  obtain ⟨hs, hp⟩ := hacc
  have key : ∀ (es : List (Str × MV)) (kvs : List (Str × Value)) (l : List Value), All2 PR es kvs → l.length = kvs.length → (∀ (j : Nat) v, l[j]? = some v → ∃ k x, kvs[j]? = some (k, x) ∧ (PySem.strKind c.prog c.w).is k v = true) → All2 MV.Is (es.map fun p => .str p.1) l := by
    intro es kvs l r
    induction r generalizing l with
    | nil => intro hl _; cases l with
      | nil => exact .nil
      | cons _ _ => simp at hl
    | @cons p q l1 l2 r0 r1 ih =>
      intro hl hv
      cases l with
      | nil => simp at hl
      | cons v l =>
        obtain ⟨k, x, e1, e2⟩ := hv 0 v rfl
        cases e1
        obtain ⟨tk, rfl⟩ := Value.isStrOf_shape e2
        refine .cons ⟨tk, ?_⟩ (ih l (by simpa using hl) fun j v' hj => hv (j + 1) v' hj)
        rw [r0.1]
  exact key es kvs acc'.toList r (by simpa using hs) fun j v hj => hp j v (by simpa using hj)
def repS (x : Str) (n : Nat) : Str := ⟨(List.replicate n x.cps).foldl (· ++ ·) #[]⟩
theorem foldl_app (l : List (Array Nat)) (acc : Array Nat) : l.foldl (· ++ ·) acc = acc ++ l.foldl (· ++ ·) #[] := by
  induction l generalizing acc with
  | nil => simp
  | cons a r ih => simp only [List.foldl_cons]; rw [ih (acc ++ a), ih (#[] ++ a)]; simp
theorem repS_length (x : Str) (n : Nat) : (repS x n).length = n * x.length := by
  show ((List.replicate n x.cps).foldl (· ++ ·) #[]).size = _
  induction n with
  | zero => simp
  | succ n ih =>
    rw [List.replicate_succ, List.foldl_cons, foldl_app, Array.size_append, Array.size_append, ih, Nat.succ_mul]
    show 0 + x.length + n * x.length = _
    omega
theorem WB.mulS {x : Str} {n : Int} {Q : MV → Hp → Prop} (h0 : 0 ≤ n) (h1 : n ≤ 1000) (h2 : x.length ≤ 1000) (h : Q (.str (repS x n.toNat)) σ) : WB c i .Mult (.str x) (.int n) ρ Q X σ := fun v u iv iu f fr z s _ _ g R => by
  obtain ⟨t, rfl⟩ := iv; obtain ⟨t', rfl⟩ := iu
  have hlen : x.length * n.toNat ≤ 1000000 := by
    have : n.toNat ≤ 1000 := by omega
    exact Nat.le_trans (Nat.mul_le_mul h2 this) (by decide)
  have fin : ∀ tk tk', (fun (a : Value) s' => ∃ m σ', MV.Is m a ∧ c.Rel f ρ σ' fr z s' ∧ Q m σ') (.str (repS x n.toNat) tk) { s with toks := tk' } := fun tk tk' => ⟨.str (repS x n.toNat), σ, ⟨_, rfl⟩, R.toks _, h⟩
  refine PySem.P.mul_str (by simp; omega) (fun _ hq => ?_) (fun _ _ => ?_) ?_
  · intro hgt
    have hn1 : (1 : Int) ≤ n := by omega
    have : (2 ^ 63 - 1 : Int) / 1000 ≤ (2 ^ 63 - 1) / n := by
      have h3 : (2 ^ 63 - 1 : Int) / 1000 * n ≤ 2 ^ 63 - 1 := by
        have : (2 ^ 63 - 1 : Int) / 1000 = 9223372036854775 := by decide
        rw [this]
        have : (9223372036854775 : Int) * n ≤ 9223372036854775 * 1000 := Int.mul_le_mul_of_nonneg_left h1 (by decide)
        omega
      exact (Int.le_ediv_iff_mul_le (by omega)).mpr h3
    have e : (2 ^ 63 - 1 : Int) / 1000 = 9223372036854775 := by decide
    omega
  · unfold Builtin.Str.tooLong
    rw [decide_eq_false_iff_not, sizeLine_eq]
    omega
  · by_cases q : n < 1
    · rw [if_pos q]
      have : n.toNat = 0 := by omega
      have e : repS x n.toNat = Str.empty := by rw [this]; rfl
      refine ⟨by rw [sizeLine_eq]; show 0 ≤ _; omega, ?_⟩
      rw [← e]; exact fin _ _
    · rw [if_neg q]
      by_cases q2 : (n == 1 || x.length == 0) = true
      · rw [if_pos q2]
        have e : repS x n.toNat = x := by
          rw [Bool.or_eq_true] at q2
          rcases q2 with q2 | q2
          · have : n.toNat = 1 := by have := beq_iff_eq.mp q2; omega
            rw [this]
            show (⟨(#[] ++ x.cps)⟩ : Str) = x
            rw [Array.empty_append]
          · have h3 := repS_length x n.toNat
            have h4 := beq_iff_eq.mp q2
            rw [h4, Nat.mul_zero] at h3
            obtain ⟨y, hy⟩ : ∃ y, repS x n.toNat = y := ⟨_, rfl⟩
            rw [hy] at h3 ⊢
            obtain ⟨a⟩ := y
            obtain ⟨b⟩ := x
            have h3' : a.size = 0 := h3
            have h4' : b.size = 0 := h4
            rw [Array.eq_empty_of_size_eq_zero h3', Array.eq_empty_of_size_eq_zero h4']
        show (fun (a : Value) s' => ∃ m σ', MV.Is m a ∧ c.Rel f ρ σ' fr z s' ∧ Q m σ') (.str x t) s
        have := fin t s.toks
        rw [e] at this
        exact this
      · rw [if_neg q2]
        refine ⟨?_, fin _ _⟩
        rw [sizeLine_eq]
        have := repS_length x n.toNat
        show (repS x n.toNat).length ≤ _
        rw [this, Nat.mul_comm]
        omega
theorem all2_rep {α β : Type} {Rl : α → β → Prop} {l : List α} {m : List β} (h : All2 Rl l m) : ∀ n, All2 Rl (List.replicate n l).flatten (List.replicate n m).flatten
  | 0 => .nil
  | n + 1 => by rw [List.replicate_succ, List.replicate_succ, List.flatten_cons, List.flatten_cons]; exact h.append (all2_rep h n)
theorem WB.mulL {a t' : Nat} {xs : List MV} {n : Int} {Q : MV → Hp → Prop} (t : Nat) (hl : σ a = some (t', .list xs)) (h0 : 0 ≤ n) (h1 : n ≤ 1000) (h2 : xs.length ≤ 1000) (h : ∀ b, Fresh σ b → Q (.ref b) (σ.put b t (.list (List.replicate n.toNat xs).flatten))) : WB c i .Mult (.ref a) (.int n) ρ Q X σ := fun v u iv iu f fr z s _ _ g R => by
  cases iv; obtain ⟨t', rfl⟩ := iu
  obtain ⟨its, k, ho, r⟩ := R.objs _ _ _ hl
  obtain ⟨m, hn, hm⟩ := R.ns
  have e : its.size = xs.length := by rw [r.length]; simp
  have hlen : its.size * n.toNat ≤ 1000000 := by
    have : n.toNat ≤ 1000 := by omega
    rw [e]
    exact Nat.le_trans (Nat.mul_le_mul h2 this) (by decide)
  refine mul_list (fr_all hn) (news_all s.heap f.env.locals) ho (by omega) (by omega) (by omega) fun h' F' N' => ?_
  have K' : Kept f.L (fun _ => False) s.heap h' := Kept.of_news hn F' N' fun p hp _ => .tail _ hp
  have hD := (N' (s.heap.objs.size, _) (.head _)).1
  rw [listMul_foldl_if] at hD
  refine ⟨.ref s.heap.objs.size, _, rfl, R.alloc (mo := .list (List.replicate n.toNat xs).flatten) (tk := s.toks) t K' (Nat.le_refl _) (fun q => by cases q) ⟨_, 0, hD, ?_⟩, h _ R.fresh⟩
  simpa using all2_rep r n.toNat
end
end Mine
open PySem PySem.W PyProof.Rows
namespace Mine
def closOf : List (Str × NameKind) → List (Str × Nat) → List (Str × Nat) → List (Str × Nat)
  | [], _, acc => acc
  | (x, k) :: r, cells, acc => if k == .free then closOf r cells ((x, (cells.lookup x).getD 0) :: acc) else closOf r cells acc
theorem closureFor_eq {scope : Scope} {env : Env} (h : ∀ p ∈ scope.names, p.2 = .free → (env.cells.lookup p.1).isSome = true) : closureFor scope env = pure (closOf scope.names env.cells []) := by
  unfold closureFor
  have key : ∀ (names : List (Str × NameKind)) (acc : List (Str × Addr)), (∀ p ∈ names, p.2 = .free → (env.cells.lookup p.1).isSome = true) →
      (forIn names acc fun x r => match x with
        | (name, kind) => if (kind == .free) = true then do
            let a ← cellOf env name
            pure (ForInStep.yield ((name, a) :: r))
          else pure (ForInStep.yield r)) = (pure (closOf names env.cells acc) : Sem _) := by
    intro names
    induction names with
    | nil => intro acc _; rfl
    | cons p r ih =>
      obtain ⟨x, k⟩ := p
      intro acc hh
      rw [List.forIn_cons]
      unfold closOf
      by_cases hk : (k == NameKind.free) = true
      · obtain ⟨a, ha⟩ := Option.isSome_iff_exists.mp (hh (x, k) (.head _) (by simpa using hk))
        have e : cellOf env x = pure a := by unfold cellOf; rw [ha]
        simp only [hk, if_true, e, pure_bind]
        rw [ih _ fun p hp => hh p (.tail _ hp), ha]
        rfl
      · simp only [hk, if_false, pure_bind]
        exact ih _ fun p hp => hh p (.tail _ hp)
  have := key scope.names [] h
  simp only [bind_pure_comp] at this ⊢
  rw [this]
  rfl
theorem mem_closOf {cells : List (Str × Nat)} {x : Str} {a : Nat} : ∀ {names : List (Str × NameKind)} {acc : List (Str × Nat)}, (x, a) ∈ closOf names cells acc ↔ (x, a) ∈ acc ∨ ((x, NameKind.free) ∈ names ∧ a = (cells.lookup x).getD 0)
  | [], acc => by simp [closOf]
  | (y, k) :: r, acc => by
    unfold closOf
    by_cases hk : (k == NameKind.free) = true
    · rw [if_pos hk, mem_closOf]
      have : k = .free := by simpa using hk
      subst this
      constructor
      · rintro (h | ⟨h, e⟩)
        · rcases List.mem_cons.mp h with h | h
          · cases h; exact .inr ⟨.head _, rfl⟩
          · exact .inl h
        · exact .inr ⟨.tail _ h, e⟩
      · rintro (h | ⟨h, e⟩)
        · exact .inl (.tail _ h)
        · rcases List.mem_cons.mp h with h | h
          · cases h; left; rw [e]; exact .head _
          · exact .inr ⟨h, e⟩
    · rw [if_neg hk, mem_closOf]
      constructor
      · rintro (h | ⟨h, e⟩)
        · exact .inl h
        · exact .inr ⟨.tail _ h, e⟩
      · rintro (h | ⟨h, e⟩)
        · exact .inl h
        · rcases List.mem_cons.mp h with h | h
          · cases h; exact absurd rfl hk
          · exact .inr ⟨h, e⟩
theorem closOf_names (cells : List (Str × Nat)) : ∀ (names : List (Str × NameKind)) (acc : List (Str × Nat)), (closOf names cells acc).map (·.1) = ((names.filter (·.2 == .free)).map (·.1)).reverse ++ acc.map (·.1)
  | [], acc => by simp [closOf]
  | (y, k) :: r, acc => by
    unfold closOf
    by_cases hk : (k == NameKind.free) = true
    · rw [if_pos hk, closOf_names cells r, List.filter_cons, if_pos hk]; simp
    · rw [if_neg hk, closOf_names cells r, List.filter_cons, if_neg hk]
def relab (scope sc : Scope) : Scope :=
  { scope with names := scope.names.map fun (n, k) => if (k == .free && sc.kind == .function && sc.names.lookup n == some .cell) then (n, .cell) else (n, k) }
def compOk (scope sc : Scope) (x : Str) : Bool :=
  scope.kind == .function && scope.names.all (fun p => p.2 != .cell && (p.2 != .local || p.1 == x || p.1 == (".0" : Str)) && (p.2 != .free || (sc.names.lookup p.1 == some .cell && p.1 != x && p.1 != (".0" : Str)))) && scope.names.lookup x == some .local &&
    decide ((scope.names.filter (·.2 == .free)).map (·.1)).Nodup && (scope.names.lookup (".0" : Str) == some .local || scope.names.all fun p => p.1 != (".0" : Str))
theorem compOk_dot {scope sc : Scope} {x : Str} (h : compOk scope sc x = true) : scope.names.lookup (".0" : Str) = some .local ∨ ∀ y ∈ scope.names, y.1 ≠ (".0" : Str) := by
  simp only [compOk, Bool.and_eq_true, beq_iff_eq, List.all_eq_true, bne_iff_ne, ne_eq, Bool.or_eq_true] at h
  exact h.2
structure CompOk (scope sc : Scope) (x : Str) : Prop where
  kind : scope.kind = .function
  nocell : ∀ p ∈ scope.names, p.2 ≠ .cell
  loc : ∀ p ∈ scope.names, p.2 = .local → p.1 = x ∨ p.1 = (".0" : Str)
  free : ∀ p ∈ scope.names, p.2 = .free → sc.names.lookup p.1 = some .cell ∧ p.1 ≠ x ∧ p.1 ≠ (".0" : Str)
  x : scope.names.lookup x = some .local
  nd : ((scope.names.filter (·.2 == .free)).map (·.1)).Nodup
theorem compOk_of {scope sc : Scope} {x : Str} (h : compOk scope sc x = true) : CompOk scope sc x := by
  simp only [compOk, Bool.and_eq_true, beq_iff_eq, List.all_eq_true, bne_iff_ne, ne_eq, Bool.or_eq_true, decide_eq_true_eq] at h
  obtain ⟨⟨⟨⟨h1, h2⟩, h3⟩, h4⟩, _⟩ := h
  refine ⟨h1, fun p hp => (h2 p hp).1.1, fun p hp e => ?_, fun p hp e => ?_, h3, h4⟩
  · rcases (h2 p hp).1.2 with (q | q) | q
    · exact absurd e q
    · exact .inl q
    · exact .inr q
  · rcases (h2 p hp).2 with q | q
    · exact absurd e q
    · exact ⟨q.1.1, q.1.2, q.2⟩
def compFm (f : Fm) (scope : Scope) (C : Nat) : Fm where
  A := f.A
  env := compEnvC scope (closOf scope.names f.env.cells []) C f.env
  top := f.top
  outer := f.outer
  slotted := frameAddrs (f.top :: f.outer)
  base := f.base
open Classical in
noncomputable def restC (σ : Hp) (s : Shared) (cl : List (Str × Nat)) : Nat → Option Obj := fun a => if Foot σ a ∨ ∃ x, (x, a) ∈ cl then none else s.heap.get? a
section
variable {c : Cx} {n : Nat} {f : Fm} {fr : Nat → Option Obj} {ρ : Lo} {σ : Hp} {z s : Shared} {scope : Scope} {x : Str}
theorem clos_mem (g : Good c n f fr) (ok : CompOk scope f.env.scope x) {y : Str} {a : Nat} (h : (y, a) ∈ closOf scope.names f.env.cells []) : (y, a) ∈ f.env.cells ∧ (y, NameKind.free) ∈ scope.names ∧ y ≠ x ∧ y ≠ (".0" : Str) := by
  rcases mem_closOf.mp h with h | ⟨h, e⟩
  · cases h
  · obtain ⟨h1, h2⟩ := ok.free _ h rfl
    obtain ⟨k, hk⟩ := Option.isSome_iff_exists.mp (g.celled y h1)
    rw [hk] at e
    exact ⟨e ▸ mem_lookup hk, h, h2⟩
theorem restC_of {cl : List (Str × Nat)} {a : Nat} {o : Obj} (h1 : ¬ Foot σ a) (h2 : ∀ y, (y, a) ∉ cl) (h3 : s.heap.get? a = some o) : restC σ s cl a = some o := by
  unfold restC; rw [if_neg (by rintro (q | ⟨y, q⟩); exact h1 q; exact h2 y q)]; exact h3
theorem restC_some {cl : List (Str × Nat)} {a : Nat} {o : Obj} (h : restC σ s cl a = some o) : s.heap.get? a = some o := by
  unfold restC at h; split at h; cases h; exact h
theorem restC_none {cl : List (Str × Nat)} {a : Nat} (h : s.heap.objs.size ≤ a) : restC σ s cl a = none := by
  cases e : restC σ s cl a with
  | none => rfl
  | some o => exact absurd (Heap.lt_size (restC_some e)) (Nat.not_lt.mpr h)
theorem Good.frameC (g : Good c n f fr) (R : c.Rel f ρ σ fr z s) (ok : CompOk scope f.env.scope x) : ∀ env ∈ f.top :: f.outer, env.scope.kind ≠ .module ∧ ∃ L o, env.frame = some L ∧ restC σ s (closOf scope.names f.env.cells []) L = some o ∧ (∀ vs, o.data ≠ .fields vs) ∧ f.base.get? L = none := by
  intro env he
  rcases List.mem_cons.mp he with rfl | he
  · refine ⟨by rw [g.topk.1]; (intro q; cases q), ?_⟩
    obtain ⟨L, hL, h, hb⟩ := g.topL
    rcases h with rfl | ⟨hs, o, ho, hd⟩
    · obtain ⟨m, ⟨o, es, ep, h1, h2, _⟩, _⟩ := R.ns
      exact ⟨_, o, hL, restC_of (fun hf => (R.apart _ hf).2.1 rfl) (fun y hy => (R.frame.2 _ _ (clos_mem g ok hy).1).2 rfl) h1, fun vs e => (by rw [h2] at e; cases e), hb⟩
    · obtain ⟨sl, h1, _⟩ := R.keep L o ho
      exact ⟨L, { o with slots := sl }, hL, restC_of (fun hf => by have := (R.apart _ hf).1; rw [ho] at this; cases this) (fun y hy => by have := (R.frame.2 _ _ (clos_mem g ok hy).1).1; rw [ho] at this; cases this) h1, hd, hb⟩
  · obtain ⟨hk, L, o, hL, hs, ho, hd⟩ := g.outer env he
    obtain ⟨sl, h1, _⟩ := R.keep L o ho
    exact ⟨hk, L, { o with slots := sl }, hL, restC_of (fun hf => by have := (R.apart _ hf).1; rw [ho] at this; cases this) (fun y hy => by have := (R.frame.2 _ _ (clos_mem g ok hy).1).1; rw [ho] at this; cases this) h1, hd, g.apart L hs⟩
theorem relab_cell {sc : Scope} {y : Str} : ∀ {names : List (Str × NameKind)}, (∀ p ∈ names, p.2 ≠ .cell) → (names.map fun (n, k) => if (k == NameKind.free && sc.kind == .function && sc.names.lookup n == some .cell) then (n, NameKind.cell) else (n, k)).lookup y = some .cell → (y, NameKind.free) ∈ names
  | [], _, h => by simp at h
  | (z, k) :: r, hc, h => by
    rw [List.map_cons] at h
    dsimp only at h
    split at h
    · rename_i hk
      rw [List.lookup_cons] at h
      cases q : (y == z) with
      | true =>
        have : k = .free := by simp only [Bool.and_eq_true, beq_iff_eq] at hk; exact hk.1.1
        rw [beq_iff_eq.mp q, this]; exact .head _
      | false => rw [q] at h; exact .tail _ (relab_cell (fun p hp => hc p (.tail _ hp)) h)
    · rw [List.lookup_cons] at h
      cases q : (y == z) with
      | true => rw [q] at h; cases h; exact absurd rfl (hc (z, .cell) (.head _))
      | false => rw [q] at h; exact .tail _ (relab_cell (fun p hp => hc p (.tail _ hp)) h)
theorem relab_local {sc : Scope} {y : Str} : ∀ {names : List (Str × NameKind)}, (names.map fun (n, k) => if (k == NameKind.free && sc.kind == .function && sc.names.lookup n == some .cell) then (n, NameKind.cell) else (n, k)).lookup y = some .local → (y, NameKind.local) ∈ names
  | [], h => by simp at h
  | (z, k) :: r, h => by
    rw [List.map_cons] at h
    dsimp only at h
    split at h
    · rw [List.lookup_cons] at h
      cases q : (y == z) with
      | true => rw [q] at h; cases h
      | false => rw [q] at h; exact .tail _ (relab_local h)
    · rw [List.lookup_cons] at h
      cases q : (y == z) with
      | true => rw [q] at h; cases h; rw [beq_iff_eq.mp q]; exact .head _
      | false => rw [q] at h; exact .tail _ (relab_local h)
theorem compFm_good (g : Good c n f fr) (R : c.Rel f ρ σ fr z s) (ok : CompOk scope f.env.scope x) {C : Nat} (hC : s.heap.objs.size ≤ C) : Good c n (compFm f scope C) (restC σ s (closOf scope.names f.env.cells [])) := by
  have hfr := g.frameC R ok
  have nm := closOf_names f.env.cells scope.names []
  exact {
    ok := g.ok
    base := fun a o e => by
      have h1 := g.base a o e
      exact restC_of (fun hf => by have := (R.apart a hf).1; rw [h1] at this; cases this) (fun y hy => by have := (R.frame.2 _ _ (clos_mem g ok hy).1).1; rw [h1] at this; cases this) (g.keep R a o e)
    apart := fun a ha => by
      obtain ⟨env, he, hf⟩ := List.mem_filterMap.mp ha
      obtain ⟨_, L, o, hL, _, _, hb⟩ := hfr env he
      rw [hL] at hf; cases hf; exact hb
    K := g.K
    top := g.top
    kind := ok.kind
    globals := g.globals
    celled := fun y hy => by
      have h1 := relab_cell ok.nocell hy
      have h2 : (y, (f.env.cells.lookup y).getD 0) ∈ closOf scope.names f.env.cells [] := mem_closOf.mpr (.inr ⟨h1, rfl⟩)
      show ((closOf scope.names f.env.cells []).lookup y).isSome = true
      cases e : (closOf scope.names f.env.cells []).lookup y with
      | some v => rfl
      | none =>
        have : ∀ (l : List (Str × Nat)), l.lookup y = none → ∀ v, (y, v) ∉ l := by
          intro l
          induction l with
          | nil => intro _ v h; cases h
          | cons p r ih =>
            obtain ⟨z', w'⟩ := p
            intro hl v hv
            rw [List.lookup_cons] at hl
            cases q : (y == z') with
            | true => rw [q] at hl; cases hl
            | false =>
              rw [q] at hl
              rcases List.mem_cons.mp hv with hv | hv
              · cases hv; simp at q
              · exact ih hl v hv
        exact absurd h2 (this _ e _)
    cellk := fun y k hy q => by
      obtain ⟨h1, h2, h3, h4⟩ := clos_mem g ok hy
      rcases ok.loc _ (relab_local q) rfl with q | q
      · exact h3 q
      · exact h4 q
    cellnd := by
      have hn1 : ((closOf scope.names f.env.cells []).map (·.1)).Nodup := by
        rw [nm]; simp only [List.map_nil, List.append_nil]
        exact (List.reverse_perm _).symm.nodup ok.nd
      refine ⟨?_, hn1, fun y k hy q => ?_⟩
      · show ((closOf scope.names f.env.cells []).map (·.2)).Nodup
        have inj : ∀ y y' a, (y, a) ∈ closOf scope.names f.env.cells [] → (y', a) ∈ closOf scope.names f.env.cells [] → y = y' := by
          intro y y' a h1 h2
          have h1 := (clos_mem g ok h1).1
          have h2 := (clos_mem g ok h2).1
          have : ∀ (l : List (Str × Nat)), (l.map (·.2)).Nodup → (y, a) ∈ l → (y', a) ∈ l → y = y' := by
            intro l
            induction l with
            | nil => intro _ h; cases h
            | cons p r ih =>
              intro hn ha hb
              simp only [List.map_cons, List.nodup_cons] at hn
              rcases List.mem_cons.mp ha with ha | ha <;> rcases List.mem_cons.mp hb with hb | hb
              · rw [← ha] at hb; cases hb; rfl
              · exact absurd (List.mem_map.mpr ⟨_, hb, by rw [← ha]⟩) hn.1
              · exact absurd (List.mem_map.mpr ⟨_, ha, by rw [← hb]⟩) hn.1
              · exact ih hn.2 ha hb
          exact this _ g.cellnd.1 h1 h2
        have : ∀ (l : List (Str × Nat)), (l.map (·.1)).Nodup → (∀ y y' a, (y, a) ∈ l → (y', a) ∈ l → y = y') → (l.map (·.2)).Nodup := by
          intro l
          induction l with
          | nil => intro _ _; simp
          | cons p r ih =>
            obtain ⟨y, a⟩ := p
            intro hn hi
            simp only [List.map_cons, List.nodup_cons] at hn ⊢
            refine ⟨fun hm => ?_, ih hn.2 fun y1 y2 a' h1 h2 => hi y1 y2 a' (.tail _ h1) (.tail _ h2)⟩
            obtain ⟨⟨y', a'⟩, hp, e⟩ := List.mem_map.mp hm
            dsimp only at e
            subst e
            have := hi y y' a' (.head _) (.tail _ hp)
            subst this
            exact hn.1 (List.mem_map.mpr ⟨_, hp, rfl⟩)
        exact this _ hn1 inj
      · have h1 := R.cel_lt (clos_mem g ok hy).1
        exact absurd (Nat.lt_of_lt_of_le h1 hC) (by rw [show k = C from q]; exact Nat.lt_irrefl _)
    builtins := g.builtins
    room := g.room
    units := g.units
    frames := g.frames
    topk := g.topk
    low := g.low
    slots := fun a ha => .inr ha
    topL := by
      obtain ⟨_, L, o, hL, hr, hd, hb⟩ := hfr f.top (.head _)
      exact ⟨L, hL, .inr ⟨List.mem_filterMap.mpr ⟨f.top, .head _, hL⟩, o, hr, hd⟩, hb⟩
    slotIn := fun a ha => by
      obtain ⟨env, he, hf⟩ := List.mem_filterMap.mp ha
      obtain ⟨_, L, o, hL, hr, _, _⟩ := hfr env he
      rw [hL] at hf; cases hf; exact ⟨o, hr⟩
    home := g.home
    outer := fun env he => by
      obtain ⟨h1, L, o, hL, hr, hd, hb⟩ := hfr env (.tail _ he)
      exact ⟨h1, L, o, hL, List.mem_filterMap.mpr ⟨env, .tail _ he, hL⟩, hr, hd⟩ }
theorem compFm_rel (g : Good c n f fr) (R : c.Rel f ρ σ fr z s) (ok : CompOk scope f.env.scope x) (h0 : ρ (".0" : Str) = none) {C : Nat} (hC : s.heap.objs.size ≤ C) {h' : Heap} {tk : Nat} (kp : ∀ b o, s.heap.get? b = some o → h'.get? b = some o) (hn : h'.Ns C fun _ => none) :
    c.Rel (compFm f scope C) (fun y => if y = x then none else ρ y) σ (restC σ s (closOf scope.names f.env.cells [])) z { s with heap := h', toks := tk } where
  same := R.same
  keep := fun a o e => ⟨o.slots, kp a o (restC_some e), fun _ => rfl⟩
  objs := fun a t mo e => (R.objs a t mo e).keeps kp
  wf := R.wf
  apart := fun a hf => ⟨by unfold restC; rw [if_pos (.inl hf)], Nat.ne_of_lt (Nat.lt_of_lt_of_le (R.foot_lt hf) hC), fun y k hy => (R.apart a hf).2.2 y k (clos_mem g ok hy).1⟩
  ns := ⟨_, hn, fun y hy => by
    rcases ok.loc _ (relab_local hy) rfl with q | q
    · dsimp only at q; subst q; rw [if_pos rfl]; trivial
    · dsimp only at q; subst q; rw [h0]; split <;> trivial⟩
  cel := fun y k hy => by
    obtain ⟨h1, h2, h3, _⟩ := clos_mem g ok hy
    obtain ⟨o, v, e, r⟩ := R.cel y k h1
    refine ⟨o, v, kp _ _ e, ?_⟩
    rw [if_neg h3]; exact r
  frame := ⟨restC_none hC, fun y k hy => ⟨by unfold restC; rw [if_pos (.inr ⟨y, hy⟩)], by
    have := Nat.lt_of_lt_of_le (R.cel_lt (clos_mem g ok hy).1) hC
    exact Nat.ne_of_lt this⟩⟩
  kl := R.kl
theorem Rel.backC (g : Good c n f fr) (R : c.Rel f ρ σ fr z s) (ok : CompOk scope f.env.scope x) {C : Nat} {ρ' : Lo} {σ' : Hp} {s' : Shared} (R' : c.Rel (compFm f scope C) ρ' σ' (restC σ s (closOf scope.names f.env.cells [])) z s') (hρ : ∀ y, y ≠ x → ρ' y = ρ y) : c.Rel f ρ σ' fr z s' := by
  have nf : ∀ {a : Nat} {o : Obj}, fr a = some o → ¬ Foot σ a := fun e h => by have := (R.apart _ h).1; rw [e] at this; cases this
  have nL : ¬ Foot σ f.env.locals := fun h => (R.apart _ h).2.1 rfl
  have nC : ∀ {x k}, (x, k) ∈ f.env.cells → ¬ Foot σ k := fun hk h => (R.apart _ h).2.2 _ _ hk rfl
  have frc : ∀ {a : Nat} {o : Obj}, fr a = some o → ∀ y, (y, a) ∉ closOf scope.names f.env.cells [] := fun e y hy => by have := (R.frame.2 _ _ (clos_mem g ok hy).1).1; rw [e] at this; cases this
  have Lc : ∀ y, (y, f.env.locals) ∉ closOf scope.names f.env.cells [] := fun y hy => (R.frame.2 _ _ (clos_mem g ok hy).1).2 rfl
  obtain ⟨m, ⟨oL, es, ep, h1, h2⟩, hm⟩ := R.ns
  refine ⟨R'.same, fun a o e => ?_, R'.objs, R'.wf, fun a hf => ⟨?_, ?_, fun y k hk => ?_⟩, ?_, fun y k hk => ?_, R.frame, R'.kl⟩
  · obtain ⟨sl, e1, e2⟩ := R.keep a o e
    obtain ⟨sl', e3, e4⟩ := R'.keep a _ (restC_of (nf e) (frc e) e1)
    refine ⟨sl', e3, fun ha => ?_⟩
    rw [e4 fun hm => ?_, ← e2 ha]
    rcases g.slots a hm with rfl | h
    · have := R.frame.1; rw [show fr f.L = fr f.env.locals from rfl, e] at this; cases this
    · exact ha h
  · cases e : fr a with
    | none => rfl
    | some o =>
      obtain ⟨sl, e1, _⟩ := R.keep a o e
      have := (R'.apart a hf).1
      rw [restC_of (nf e) (frc e) e1] at this; cases this
  · intro q
    have := (R'.apart a hf).1
    rw [q, restC_of nL Lc h1] at this; cases this
  · intro q
    subst q
    by_cases hy : ∃ y', (y', a) ∈ closOf scope.names f.env.cells []
    · obtain ⟨y', hy'⟩ := hy; exact (R'.apart a hf).2.2 y' a hy' rfl
    · obtain ⟨o, v, e1, _⟩ := R.cel y a hk
      have := (R'.apart a hf).1
      rw [restC_of (nC hk) (fun y' h => hy ⟨y', h⟩) e1] at this; cases this
  · obtain ⟨sl, e1, _⟩ := R'.keep _ _ (restC_of nL Lc h1)
    exact ⟨m, ⟨_, es, ep, e1, h2⟩, hm⟩
  · by_cases hy : ∃ y', (y', k) ∈ closOf scope.names f.env.cells []
    · obtain ⟨y', hy'⟩ := hy
      have h3 := clos_mem g ok hy'
      have : y' = y := by
        have : ∀ (l : List (Str × Nat)), (l.map (·.2)).Nodup → (y', k) ∈ l → (y, k) ∈ l → y' = y := by
          intro l
          induction l with
          | nil => intro _ h; cases h
          | cons p r ih =>
            intro hn ha hb
            simp only [List.map_cons, List.nodup_cons] at hn
            rcases List.mem_cons.mp ha with ha | ha <;> rcases List.mem_cons.mp hb with hb | hb
            · rw [← ha] at hb; cases hb; rfl
            · exact absurd (List.mem_map.mpr ⟨_, hb, by rw [← ha]⟩) hn.1
            · exact absurd (List.mem_map.mpr ⟨_, ha, by rw [← hb]⟩) hn.1
            · exact ih hn.2 ha hb
        exact this _ g.cellnd.1 h3.1 hk
      subst this
      obtain ⟨o, v, e1, d, r⟩ := R'.cel y' k hy'
      rw [hρ y' h3.2.2.1] at r
      exact ⟨o, v, e1, d, r⟩
    · obtain ⟨o, v, e1, d, r⟩ := R.cel y k hk
      obtain ⟨sl, e2, _⟩ := R'.keep _ _ (restC_of (nC hk) (fun y' h => hy ⟨y', h⟩) e1)
      exact ⟨_, v, e2, d, r⟩
end
end Mine
open PySem PySem.W PyProof.Rows
namespace Mine
def WTs (c : Cx) (i : Ix) : List Expr → Lo → (Bool → Hp → Prop) → EX → Hp → Prop
  | [], _, Q, _, σ => Q true σ
  | [t], ρ, Q, X, σ => WT c i t ρ Q X σ
  | _, _, _, _, _ => False
def WComp (c : Cx) (i : Ix) (x : Str) (elt : Expr) (ifs : List Expr) (still : Hp → Prop) (Q : List MV → Hp → Prop) (ρ : Lo) : List MV → List MV → Hp → Prop
  | [], acc, σ => still σ ∧ Q acc σ
  | v :: vs, acc, σ => still σ ∧ WTs c i ifs (ρ.put x v) (fun b σ₁ => if b then WE c i elt (ρ.put x v) (fun u σ₂ => WComp c i x elt ifs still Q ρ vs (acc ++ [u]) σ₂) noX σ₁ else WComp c i x elt ifs still Q ρ vs acc σ₁) noX σ
theorem noX_elim {c : Cx} {f : Fm} {fr : Nat → Option Obj} {z : Shared} {ρ : Lo} {v : Value} {s : Shared} {P : Prop} (h : XPost c f fr z (noX.at ρ) v s) : P := let ⟨_, _, _, _, _, _, _, _, q⟩ := h; q.elim
section
variable {c : Cx} {i : Ix} {ρ : Lo} {σ : Hp} {f : Fm} {fr : Nat → Option Obj} {z s : Shared} {scope : Scope} {x : Str}
abbrev Ix.comp (i : Ix) (scope : Scope) : Ix := ⟨i.n, i.hn, relab scope i.sc⟩
theorem comp_code {px : Pos} {elt iter : Expr} {ifs : List Expr} {pos : Pos} {I : Nat} {It : Nat → Heap → Prop} {items : List MV} {still : Hp → Prop} (T : Steps c I It items still) {Qc : List MV → Hp → Prop} {E : Value → Shared → Prop}
    (dn : ∀ {k f' ρ' σ' s'} {Q' : Option Value → Shared → Prop} {E' : Value → Shared → Prop}, c.Rel f' ρ' σ' (restC σ s (closOf scope.names f.env.cells [])) z s' → still σ' → It k s'.heap → items[k]? = none → (∀ h' tk, (∀ a o, a ≠ I → s'.heap.get? a = some o → h'.get? a = some o) → Q' none { s' with heap := h', toks := tk }) → wpAny c.M f.A (pyNext (.ref I)) Q' E' s')
    (a : f.env.scope = i.sc) (b : i.hn = true → f.A.handled = none) (g : Good c i.n f fr) (R : c.Rel f ρ σ fr z s) (ok : CompOk scope f.env.scope x) (h0 : ρ (".0" : Str) = none) {h₂ : Heap} (kp : ∀ b o, s.heap.get? b = some o → h₂.get? b = some o)
    (hI : s.heap.objs.size ≤ I) (hI2 : I < h₂.objs.size) (hz : items.length ≤ 1000000) (it : It 0 h₂) (h : WComp c (i.comp scope) x elt ifs still Qc ρ items [] σ) {RR : Value → Nat → Result → Shared → Prop}
    (hRR : ∀ D C vs σ' its k m s', c.Rel f ρ σ' fr z s' → s'.heap.get? D = some (listOf its k) → All2 MV.Is vs its.toList → Alien f σ' fr D → Alien f σ' fr C → D ≠ C → s'.heap.Ns C m → Qc vs σ' → RR (.ref D) C (.ok .next) s') :
    wpAny c.M f.A (newList []) (fun acc s₃ => wpAny c.M f.A (newFunctionEnv scope f.env.globals (closOf scope.names f.env.cells []) [] f.env.qual none .none (some f.env)) (fun cenv s₄ =>
      codeAny c.M f.A (.compStart (.ListComp elt [⟨.Name x px, iter, ifs, 0⟩] scope pos) 0 (.ref I) acc { cenv with scope := relabel scope f.env }) (RR acc cenv.locals) s₄) E s₃) E { s with heap := h₂ } := by
  refine wpAny_newObj_type (wpAny_newFunctionEnv ok.nocell (by intro y hy; simp at hy) (fun h₁ hns₁ hsb₁ => ?_) ok.kind)
  dsimp only at hns₁ hsb₁ ⊢
  generalize hH2 : h₂.push { cls := .type "list", dict := none, data := .seq ([] : List Value).toArray } = H2 at hns₁ hsb₁ ⊢
  have hsz : s.heap.objs.size < h₂.objs.size := Nat.lt_of_le_of_lt hI hI2
  generalize hD : h₂.objs.size = D at *
  have hDs : s.heap.objs.size ≤ D := Nat.le_of_lt hsz
  have hCeq : H2.objs.size = D + 1 := by rw [← hH2, Heap.size_push, hD]
  generalize hCC : H2.objs.size = C at *
  have hDC : D ≠ C := by rw [hCeq]; exact (Nat.succ_ne_self D).symm
  have hCs : s.heap.objs.size ≤ C := by rw [hCeq]; exact Nat.le_succ_of_le hDs
  have old : ∀ b o, h₂.get? b = some o → h₁.get? b = some o := fun b o e => (hsb₁.2 b (by have h5 : b < D := hD ▸ Heap.lt_size e; have h6 : b < C := (by rw [hCeq]; exact Nat.lt_succ_of_lt h5); exact Nat.ne_of_lt h6)).trans (Heap.get?_push_of_some _ (hH2 ▸ Heap.get?_push_of_some _ e))
  have hacc : h₁.get? D = some (listOf #[] 0) := (hsb₁.2 D (by show D ≠ C; exact hDC)).trans (Heap.get?_push_of_some _ (by rw [← hH2, ← hD]; exact Heap.get?_push_size _ rfl))
  have G' := compFm_good g R ok hCs
  have R0 : c.Rel (compFm f scope C) (fun y => if y = x then none else ρ y) σ (restC σ s (closOf scope.names f.env.cells [])) z { s with heap := h₁, toks := s.toks + ([] : List (Str × Value)).length } := compFm_rel g R ok h0 hCs (fun b o e => old b o (kp b o e)) hns₁
  have frN : ∀ a, s.heap.objs.size ≤ a → restC σ s (closOf scope.names f.env.cells []) a = none := fun a ha => restC_none ha
  have nsl : ∀ a, s.heap.objs.size ≤ a → a ∉ (compFm f scope C).slotted := fun a ha h => by obtain ⟨o, e⟩ := G'.slotIn a h; rw [frN a ha] at e; cases e
  have clt : ∀ y k, (y, k) ∈ (compFm f scope C).env.cells → k < s.heap.objs.size := fun y k hy => R.cel_lt (clos_mem g ok hy).1
  have mkAl : ∀ {σ' : Hp} {a : Nat}, s.heap.objs.size ≤ a → a ≠ C → ¬ Foot σ' a → Alien (compFm f scope C) σ' (restC σ s (closOf scope.names f.env.cells [])) a := fun ha hc hf =>
    ⟨frN _ ha, hf, hc, fun y k hy q => by have h7 := clt y k hy; rw [← q] at h7; exact absurd h7 (Nat.not_lt.mpr ha)⟩
  have hIC : I ≠ C := by rw [hCeq]; exact Nat.ne_of_lt (Nat.lt_succ_of_lt hI2)
  have hID : I ≠ D := Nat.ne_of_lt hI2
  have sc' : (compFm f scope C).env.scope = (i.comp scope).sc := by show relabel scope f.env = relab scope i.sc; rw [← a]; rfl
  have hxl : (i.comp scope).sc.names.lookup x = some .local := by rw [← sc']; exact lookup_relabel_local ok.x
  have loop : codeAny c.M f.A (.compLoop (.ListComp elt [⟨.Name x px, iter, ifs, 0⟩] scope pos) 0 (.ref I) (.ref D) (compFm f scope C).env) (RR (.ref D) C) { s with heap := h₁, toks := s.toks + ([] : List (Str × Value)).length } := by
    refine codeAny_compLoop_tests (fun m s' => ∃ j ρ' σ' vs its k, m + j = items.length ∧ It j s'.heap ∧ c.Rel (compFm f scope C) ρ' σ' (restC σ s (closOf scope.names f.env.cells [])) z s' ∧ (∀ y, y ≠ x → ρ' y = ρ y) ∧ ¬ Foot σ' I ∧ ¬ Foot σ' D ∧
      s'.heap.get? D = some (listOf its k) ∧ All2 MV.Is vs its.toList ∧ its.size ≤ j ∧ WComp c (i.comp scope) x elt ifs still Qc ρ (items.drop j) vs σ') ?_ items.length
      ⟨0, _, σ, [], #[], 0, by simp, T.move _ _ _ it fun o e => old _ _ e, R0, fun y hy => if_neg hy, fun hf => absurd (R.foot_lt hf) (Nat.not_lt.mpr hI), fun hf => absurd (R.foot_lt hf) (Nat.not_lt.mpr hDs), hacc, .nil, Nat.zero_le _, by simpa using h⟩
    rintro m s' ⟨j, ρ', σ', vs, its, k, hmj, it', R', hρ, fI, fD, hl, hv, hits, h'⟩
    have alI := mkAl hI hIC fI
    have alD := mkAl hDs hDC fD
    cases e : items[j]? with
    | none =>
      have el : items.drop j = [] := by rw [List.drop_eq_nil_iff]; exact List.getElem?_eq_none_iff.mp e
      rw [el] at h'
      refine dn R' h'.1 it' e fun h₃ tk k₃ => ?_
      have R3 := R'.alien (tk := tk) alI (Alien.none G' R' alI) k₃
      obtain ⟨m', hn', _⟩ := R3.ns
      have fC : ¬ Foot σ' C := fun hf => (R3.apart C hf).2.1 rfl
      exact hRR D C vs σ' its k m' _ (Rel.backC g R ok R3 hρ) (k₃ _ _ (Ne.symm hID) hl) hv (R.alienAt hDs fD) (R.alienAt hCs fC) hDC hn' h'.2
    | some v =>
      obtain ⟨hlt, rfl⟩ := List.getElem?_eq_some_iff.mp e
      rw [List.drop_eq_getElem_cons hlt] at h'
      refine T.item R' h'.1 it' e fun u h₃ tk is it₃ k₃ => ?_
      have R3 := R'.alien (tk := tk) alI (Alien.none G' R' alI) k₃
      have hl3 : h₃.get? D = some (listOf its k) := k₃ _ _ (Ne.symm hID) hl
      obtain ⟨oI, hoI, _⟩ := T.obj _ _ it₃
      have R4 := R3.add alI hoI
      have alD4 : Alien (compFm f scope C) σ' (addFr (restC σ s (closOf scope.names f.env.cells [])) I oI) D := ⟨by rw [addFr_ne (Ne.symm hID)]; exact alD.fr, alD.foot, alD.L, alD.cells⟩
      have R5 := R4.add alD4 hl3
      have G5 := (G'.add (o := oI) alI.fr).add (o := listOf its k) alD4.fr
      have eρ : ρ'.put x items[j] = ρ.put x items[j] := by
        funext y
        unfold Lo.put
        by_cases q : y = x
        · rw [if_pos q, if_pos q]
        · rw [if_neg q, if_neg q]; exact hρ y q
      refine wpAny_assign_Name (wpAny_mono (WSt.local (i := i.comp scope) (Q := fun ρ₁ σ₁ => ρ₁ = ρ.put x items[j] ∧ σ₁ = σ') (X := noSX) hxl ⟨eρ, rfl⟩ u is (compFm f scope C) _ z _ sc' b G5 R5) (fun _ s₆ ⟨ρ₆, σ₆, R6, e1, e2⟩ => ?_) fun _ _ x => noSX_elim x)
      subst e1; subst e2
      -- back from the frames of the iterator and the list
      have out : ∀ {σ'' : Hp} {s'' : Shared}, c.Rel (compFm f scope C) (ρ.put x items[j]) σ'' (addFr (addFr (restC σ s (closOf scope.names f.env.cells [])) I oI) D (listOf its k)) z s'' →
          c.Rel (compFm f scope C) (ρ.put x items[j]) σ'' (restC σ s (closOf scope.names f.env.cells [])) z s'' ∧ Alien (compFm f scope C) σ'' (restC σ s (closOf scope.names f.env.cells [])) I ∧ Alien (compFm f scope C) σ'' (restC σ s (closOf scope.names f.env.cells [])) D ∧ s''.heap.get? I = some oI ∧ s''.heap.get? D = some (listOf its k) := fun R7 => by
        obtain ⟨R8, al8, ho8⟩ := Rel.drop alD4.fr R7 (nsl D hDs)
        obtain ⟨R9, al9, ho9⟩ := Rel.drop alI.fr R8 (nsl I hI)
        exact ⟨R9, al9, mkAl hDs hDC al8.foot, ho9, ho8⟩
      have eρ2 : ∀ y, y ≠ x → (ρ.put x items[j]) y = ρ y := fun y hy => by unfold Lo.put; rw [if_neg hy]
      have again : ∀ {σ'' : Hp} {s'' : Shared} {vs' : List MV} {its' : Array Value} {k' : Nat}, c.Rel (compFm f scope C) (ρ.put x items[j]) σ'' (restC σ s (closOf scope.names f.env.cells [])) z s'' → ¬ Foot σ'' I → ¬ Foot σ'' D → s''.heap.get? I = some oI → s''.heap.get? D = some (listOf its' k') → All2 MV.Is vs' its'.toList → its'.size ≤ j + 1 → WComp c (i.comp scope) x elt ifs still Qc ρ (items.drop (j + 1)) vs' σ'' →
          ∃ m', m' < m ∧ ∃ j ρ' σ' vs its k, m' + j = items.length ∧ It j s''.heap ∧ c.Rel (compFm f scope C) ρ' σ' (restC σ s (closOf scope.names f.env.cells [])) z s'' ∧ (∀ y, y ≠ x → ρ' y = ρ y) ∧ ¬ Foot σ' I ∧ ¬ Foot σ' D ∧
      s''.heap.get? D = some (listOf its k) ∧ All2 MV.Is vs its.toList ∧ its.size ≤ j ∧ WComp c (i.comp scope) x elt ifs still Qc ρ (items.drop j) vs σ' := fun R9 f1 f2 o1 o2 hv' hz' hw => by
        refine ⟨m - 1, by omega, j + 1, _, _, _, _, _, by omega, T.move _ _ _ it₃ fun o' e' => ?_, R9, eρ2, f1, f2, o2, hv', hz', hw⟩
        rw [hoI] at e'; cases e'; exact o1
      have tests : ∀ {Qt : Bool → Hp → Prop} {s₆ : Shared}, c.Rel (compFm f scope C) (ρ.put x items[j]) σ₆ (addFr (addFr (restC σ s (closOf scope.names f.env.cells [])) I oI) D (listOf its k)) z s₆ → WTs c (i.comp scope) ifs (ρ.put x items[j]) Qt noX σ₆ → ∀ E', wpAny c.M f.A (forIn ifs true fun c r => if r = true then do let ok ← isTrue c (compFm f scope C).env (eval c (compFm f scope C).env); pure (ForInStep.yield ok) else pure (ForInStep.yield r))
          (fun ok s₇ => ∃ σ₇, c.Rel (compFm f scope C) (ρ.put x items[j]) σ₇ (addFr (addFr (restC σ s (closOf scope.names f.env.cells [])) I oI) D (listOf its k)) z s₇ ∧ Qt ok σ₇) E' s₆ := fun R6 ht E' => by
        rcases ifs with _ | ⟨t, _ | ⟨t', r⟩⟩
        · exact wpAny_tests_nil ⟨_, R6, ht⟩
        · refine wpAny_tests_one (wuse (ht (compFm f scope C) _ z _ sc' b G5 R6) (fun bb s₇ b' σ₇ eb R7 hq => ?_) fun _ _ x => noX_elim x)
          subst eb
          exact ⟨σ₇, R7, hq⟩
        · exact ht.elim
      refine wpAny_mono (tests R6 h'.2 _) (fun okb s₇ ⟨σ₇, R7, hq⟩ => ?_) fun _ _ x => x
      cases okb with
      | false =>
        rw [if_neg Bool.false_ne_true] at hq ⊢
        obtain ⟨R9, al9, al8, ho9, ho8⟩ := out R7
        exact again R9 al9.foot al8.foot ho9 ho8 hv (Nat.le_succ_of_le hits) hq
      | true =>
        rw [if_pos rfl] at hq ⊢
        refine wuse (hq (compFm f scope C) _ z _ sc' b G5 R7) (fun y s₈ ym σ₈ isy R8 hq8 => ?_) fun _ _ x => noX_elim x
        obtain ⟨R9, al9, al8, ho9, ho8⟩ := out R8
        refine append_at ho8 (fun h₉ hs₉ hl₉ => ?_) (size_ok (by omega))
        have R10 := R9.alien (tk := s₈.toks) al8 (Alien.none G' R9 al8) (h' := h₉) fun a o ne e => (hs₉.2 a ne).trans e
        refine again R10 al9.foot al8.foot ((hs₉.2 I hID).trans ho9) hl₉ ?_ (by rw [Array.size_push]; omega) hq8
        rw [Array.toList_push]
        exact hv.append (.cons isy .nil)
  exact codeAny_compStart_list loop (T.self (k := 0) (T.move _ _ _ it fun o e => old _ _ e) loop)
theorem Rel.adopt (R : c.Rel f ρ σ fr z s) {D : Nat} {its : Array Value} {k : Nat} {vs : List MV} (t : Nat) (al : Alien f σ fr D) (ho : s.heap.get? D = some (listOf its k)) (hv : All2 MV.Is vs its.toList) : c.Rel f ρ (σ.put D t (.list vs)) fr z s where
  same := R.same
  keep := R.keep
  objs := fun a t' mo e => by
    by_cases q : a = D
    · subst q; rw [Hp.put_self] at e; cases e; exact ⟨its, k, ho, hv⟩
    · rw [Hp.put_ne _ _ _ q] at e; exact R.objs a t' mo e
  wf := fun a t' C fs e => by
    by_cases q : a + 1 = D
    · rw [q, Hp.put_self] at e; cases e
    · rw [Hp.put_ne _ _ _ q] at e
      by_cases q' : a = D
      · subst q'; exact absurd (.inr ⟨_, _, _, e⟩) al.foot
      · rw [Hp.put_ne _ _ _ q']; exact R.wf a t' C fs e
  apart := fun a fa => by
    by_cases q : a = D
    · subst q; exact ⟨al.fr, al.L, al.cells⟩
    · refine R.apart a ?_
      rcases fa with ⟨t₁, mo₁, fa, fk⟩ | ⟨t₁, C, fs, e⟩
      · rw [Hp.put_ne _ _ _ q] at fa; exact .of_some fa fk
      · by_cases q' : a + 1 = D
        · rw [q', Hp.put_self] at e; cases e
        · rw [Hp.put_ne _ _ _ q'] at e; exact .inr ⟨_, _, _, e⟩
  ns := R.ns
  cel := R.cel
  frame := R.frame
  kl := fun a t' xs o e => by
    by_cases q : a = D
    · subst q; rw [Hp.put_self] at e; cases e
    · rw [Hp.put_ne _ _ _ q] at e; exact R.kl a t' xs o e
theorem Alien.sigma {n : Nat} (g : Good c n f fr) (R : c.Rel f ρ σ fr z s) {D : Nat} (al : Alien f σ fr D) : σ D = Option.none := by
  cases e : σ D with
  | none => rfl
  | some p => exact absurd e (Alien.none g R al p.1 p.2)
variable {X : EX}
theorem CompOk.names (ok : CompOk scope i.sc x) (hd0 : scope.names.lookup (".0" : Str) = some .local ∨ ∀ y ∈ scope.names, y.1 ≠ (".0" : Str)) : ∀ y ∈ scope.names, y.2 = .local → scope.names.lookup y.1 = some .local := fun y hy e => by
  rcases ok.loc y hy e with q | q
  · rw [q]; exact ok.x
  · rcases hd0 with h | h
    · rw [q]; exact h
    · exact absurd q (h y hy)
theorem CompOk.clos (ok : CompOk scope f.env.scope x) {n : Nat} (g : Good c n f fr) : closureFor scope f.env = pure (closOf scope.names f.env.cells []) := closureFor_eq fun p hp e => g.celled p.1 (ok.free p hp e).1
theorem WE.comp {px : Pos} {elt iter : Expr} {ifs : List Expr} {pos : Pos} {Q : MV → Hp → Prop} (t : Nat) (hn : i.hn = true) (hs : NotSet iter) (hok : compOk scope i.sc x = true) (h0 : ρ (".0" : Str) = Option.none)
    (h : WE c i iter ρ (fun v σ₁ => ∃ xs still, Iterable σ₁ v xs still ∧ xs.length ≤ 1000000 ∧ WComp c (i.comp scope) x elt ifs still (fun vs σ₂ => ∀ D, σ₂ D = Option.none → Q (.ref D) (σ₂.put D t (.list vs))) ρ xs [] σ₁) X σ) :
    WE c i (.ListComp elt [⟨.Name x px, iter, ifs, 0⟩] scope pos) ρ Q X σ := fun f fr z s a b g R => by
  have ok : CompOk scope f.env.scope x := by rw [a]; exact compOk_of hok
  show wpAny _ _ (eval _ _) _ _ _
  rw [eval_ListComp]
  refine wpAny_comprehension_free (use := Option.none) rfl (by intro x; exact hs _ x) (ok.clos g) ok.kind (by rw [a] at ok; exact ok.names (compOk_dot hok)) (wpAny_mono (h f fr z s a b g R) (fun u s₁ ⟨v, σ₁, is, R₁, xs, still, itb, hz, h₁⟩ => ?_) fun _ _ x => x)
  refine iter_start R₁ itb is fun I It h₂ T hI hI2 kp it => ?_
  refine comp_code T (fun R' st it e hQ => T.done R' (b hn) st it e hQ) a b g R₁ ok h0 kp hI hI2 hz it h₁ (RR := fun acc C => compPost _ _ _ Option.none _ acc C) ?_
  intro D C vs σ' its k m s' R' hD hv alD alC hDC hnC hQ
  refine ⟨m, hnC, fun h' hs' => ?_⟩
  have R'' := R'.alien (tk := s'.toks) alC (Alien.none g R' alC) (h' := h') fun a o ne e => (hs'.2 a ne).trans e
  exact ⟨.ref D, _, rfl, Rel.adopt R'' t alD ((hs'.2 D hDC).trans hD) hv, hQ D (Alien.sigma g R' alD)⟩
variable {X : SX}
theorem WS.assignComp {y : Str} {py px : Pos} {elt iter : Expr} {ifs : List Expr} {pos spos : Pos} {Q : MF → Lo → Hp → Prop} (t : Nat) (hn : i.hn = true) (hs : NotSet iter) (hok : compOk scope i.sc x = true) (h0 : ρ (".0" : Str) = Option.none)
    (hy : i.sc.names.lookup y = some .local) (hline : (py.line == pos.line && !(scope.names.any fun (n, k) => n == y && (k == .local || k == .cell))) = true)
    (h : WE c i iter ρ (fun v σ₁ => ∃ xs still, Iterable σ₁ v xs still ∧ xs.length ≤ 1000000 ∧ WComp c (i.comp scope) x elt ifs still (fun vs σ₂ => ∀ D, σ₂ D = Option.none → Q .next (ρ.put y (.ref D)) (σ₂.put D t (.list vs))) ρ xs [] σ₁) (X.ex ρ) σ) :
    WS c i (.Assign [.Name y py] (.ListComp elt [⟨.Name x px, iter, ifs, 0⟩] scope pos) spos) ρ Q X σ := fun f fr z s a b g R => by
  have ok : CompOk scope f.env.scope x := by rw [a]; exact compOk_of hok
  have hsw : swapsWith (.ListComp elt [⟨.Name x px, iter, ifs, 0⟩] scope pos) (some (.Name y py)) spos.line f.env = pure true := by
    unfold swapsWith
    have e1 : f.env.blockKind = .function := by unfold Env.blockKind; rw [g.kind]; rfl
    have e2 : f.env.kindOf y = some .local := kindAt a hy
    dsimp only
    rw [e1, e2]
    simp only [Bool.and_eq_true] at hline
    show (pure (((ScopeKind.function == ScopeKind.function) && (some NameKind.local == some NameKind.local) && (py.line == pos.line)) && _) : Sem Bool) = pure true
    rw [hline.1, hline.2]; rfl
  show wpAny _ _ (exec _ _) _ _ _
  rw [exec_Assign_Name_used _ _ _ _ hsw]
  refine wpAny_bind (wpAny_standAt (wpAny_bind ?_))
  show wpAny _ f.A (do let _ ← comprehension (.ListComp elt [⟨.Name x px, iter, ifs, 0⟩] scope pos) scope f.env _ (newList []) false (eval iter f.env) (some (PySem.assign (.Name y py) f.env))) _ _ s
  refine wpAny_bind (wpAny_mono (wpAny_comprehension_free (use := some (PySem.assign (.Name y py) f.env)) (Q := fun _ s' => ∃ m ρ' σ', MF.Is m .next ∧ c.Rel f ρ' σ' fr z s' ∧ Q m ρ' σ') rfl (by intro x; exact hs _ x) (ok.clos g) ok.kind (by rw [a] at ok; exact ok.names (compOk_dot hok))
    (wpAny_mono (h f fr z s a b g R) (fun u s₁ ⟨v, σ₁, is, R₁, xs, still, itb, hz, h₁⟩ => ?_) fun _ _ x => Ex.at x)) (fun _ s' hq => wpAny_pure (wpAny_pure hq)) fun _ _ e => e)
  refine iter_start R₁ itb is fun I It h₂ T hI hI2 kp it => ?_
  refine comp_code T (fun R' st it e hQ => T.done R' (b hn) st it e hQ) a b g R₁ ok h0 kp hI hI2 hz it h₁ (RR := fun acc C => compPost _ _ _ (some (PySem.assign (.Name y py) f.env)) _ acc C) ?_
  intro D C vs σ' its k m s' R' hD hv alD alC hDC hnC hQ
  have R2 := Rel.adopt R' t alD hD hv
  have nC : C ∉ f.slotted := fun h => by obtain ⟨o, e⟩ := g.slotIn C h; rw [alC.fr] at e; cases e
  have alC2 : Alien f (σ'.put D t (.list vs)) fr C := ⟨alC.fr, fun hf => by
    rcases hf with ⟨t₁, mo₁, fa, fk⟩ | ⟨t₁, C', fs, e⟩
    · rw [Hp.put_ne _ _ _ (Ne.symm hDC)] at fa; exact alC.foot (.of_some fa fk)
    · by_cases q' : C + 1 = D
      · rw [q', Hp.put_self] at e; cases e
      · rw [Hp.put_ne _ _ _ q'] at e; exact alC.foot (.inr ⟨_, _, _, e⟩), alC.L, alC.cells⟩
  obtain ⟨oC, es, ep, hoC, hrC⟩ := hnC
  have R3 := R2.add alC2 hoC
  show wpAny _ _ (PySem.assign (.Name y py) f.env (.ref D)) _ _ _
  refine wpAny_assign_Name (wpAny_mono (WSt.local (X := noSX) (Q := fun ρ₁ σ₁ => ρ₁ = ρ.put y (.ref D) ∧ σ₁ = σ'.put D t (.list vs)) hy ⟨rfl, rfl⟩ (.ref D) rfl f _ z _ a b (g.add alC.fr) R3) (fun _ s₆ ⟨ρ₆, σ₆, R6, e1, e2⟩ => ?_) fun _ _ x => noSX_elim x)
  subst e1; subst e2
  obtain ⟨R7, al7, ho7⟩ := Rel.drop alC.fr R6 nC
  refine ⟨m, ⟨oC, es, ep, ho7, hrC⟩, fun h' hs' => ?_⟩
  have R8 := R7.alien (tk := s₆.toks) al7 (Alien.none g R7 al7) (h' := h') fun a o ne e => (hs'.2 a ne).trans e
  exact ⟨.next, _, _, rfl, R8, hQ D (Alien.sigma g R' alD)⟩
end
end Mine
open PySem PySem.W PyProof.Rows
namespace Mine
theorem cellsFrom_gt : ∀ (names : List (Str × NameKind)) (n : Nat) (acc : List (Str × Nat)) (lo : Nat), lo < n → (∀ p ∈ acc, lo < p.2) → ∀ p ∈ cellsFrom n names acc, lo < p.2 := by
  intro names
  induction names with
  | nil => intro n acc lo _ h; exact h
  | cons q r ih =>
    obtain ⟨y, k⟩ := q
    intro n acc lo hlo h
    unfold cellsFrom
    by_cases hk : (k == .cell) = true
    · rw [if_pos hk]
      refine ih (n + 1) _ lo (by omega) fun p hp => ?_
      rcases List.mem_cons.mp hp with rfl | hp
      · exact hlo
      · exact h p hp
    · rw [if_neg hk]; exact ih n acc lo hlo h
def lawHp (l : Nat) (ns : List Int) (o : Obj) : Hp := fun a => if a = l then some (0, .klist (ns.map .int) o) else none
theorem ints_all2 {vs : List Value} {ns : List Int} (h : IntsAre vs ns) : All2 MV.Is (ns.map .int) vs := by
  induction h with
  | nil => exact .nil
  | cons t ts _ ih => exact .cons ⟨_, rfl⟩ ih
def lawFm (name : Str) (scope : Scope) (L fa : Nat) (cd : Value) (h : Heap) : Fm where
  A := callerA.deeper (envOfC name scope L fa cd)
  env := envOfC name scope L fa cd
  top := envOfC name scope L fa cd
  outer := []
  slotted := []
  base := h
theorem law_enter {c : Cx} (ok : CxOk c) {s₁ : Shared} {fa : Nat} {o : Obj} {name : Str} {params : Arguments} {body : List Stmt} {scope : Scope} {p : Str} {pm cd doc dV kV : Value} (ho : s₁.heap.get? fa = some o)
    (hd : o.data = .func { Calls.docDef name params body scope pm cd doc with defaults := dV, kwdefaults := kV }) (hcd : s₁.heap.CodeRec cd name) (KX : c.K.In s₁.heap) (T : Top c.p c.loose c.mean c.mg c.mb s₁.heap)
    (hbind : ∀ u : Value, bindArgs { Calls.docDef name params body scope pm cd doc with defaults := dV, kwdefaults := kV } ⟨[u], []⟩ = pure [(p, u)]) (hs : scopeOk scope [p] = true) {l : Nat} {vs : List Value} {ns : List Int} (hL : s₁.heap.IsList l vs.toArray) (hI : IntsAre vs ns)
    (h : ∀ ol, WSs c ⟨200, true, scope⟩ body (bindLo [p] [.ref l] fun _ => none) (fun m _ _ => m = .ret (.bool true)) noSX (lawHp l ns ol)) {P : Result → Shared → Prop}
    (hP : ∀ s', (∀ b o, s₁.heap.get? b = some o → s'.heap.get? b = some o) → s'.os = s₁.os → s'.gens = s₁.gens → P (.ok (.ret (.bool true))) s') : codeAny c.M callerA (.call (.ref fa) ⟨[.ref l], []⟩) P s₁ := by
  obtain ⟨hk, hco, hgen, hps, hcl, hnd⟩ := scopeOk_of hs
  obtain ⟨ol, hol, hlc, nl, hld⟩ := hL
  refine codeAny_call_function (by decide) ho hd hco hgen rfl hcd ?_
  rw [hbind (.ref l)]
  refine wpAny_pure ?_
  refine wpAny_newFunctionEnv_cells hk (fun x hx => ?_) fun env' he s' x => ?_
  · rw [List.mem_singleton] at hx
    subst hx
    exact (hps p (.head _)).imp id fun q => ⟨q, cellsFrom_some _ _ _ (.inl q)⟩
  · subst he
    refine ⟨T.nolimit.keeps x.toInCall.keep, codeAny_func ?_⟩
    have nm := cellsFrom_names scope.names 0 (s₁.heap.objs.size + 1) [] [] rfl
    have hk₁ := x.toInCall.keep
    have cellk : ∀ y k, (y, k) ∈ cellsFrom (s₁.heap.objs.size + 1) scope.names [] → scope.names.lookup y ≠ some .local := fun y k hx => by
      have : y ∈ (cellsFrom 0 scope.names []).map (·.1) := by rw [nm]; exact List.mem_map.mpr ⟨_, hx, rfl⟩
      obtain ⟨p, hp, rfl⟩ := List.mem_map.mp this
      exact hcl p hp
    have above : ∀ y k, (y, k) ∈ cellsFrom (s₁.heap.objs.size + 1) scope.names [] → s₁.heap.objs.size < k := fun y k hx => cellsFrom_gt scope.names _ [] _ (by omega) (fun _ h => nomatch h) (y, k) hx
    have noBase : s₁.heap.get? s₁.heap.objs.size = none := by
      cases e : s₁.heap.get? s₁.heap.objs.size with
      | none => rfl
      | some o => exact absurd (Heap.lt_size e) (Nat.lt_irrefl _)
    have G : Good c 200 (lawFm name scope s₁.heap.objs.size fa cd s₁.heap) s₁.heap.get? := {
      ok := ok
      base := fun a o e => e
      apart := fun a ha => nomatch ha
      K := KX
      top := T
      kind := hk
      globals := rfl
      celled := fun y hy => cellsFrom_some _ _ _ (.inl hy)
      cellk := cellk
      cellnd := ⟨cellsFrom_lt _ _ _ (fun _ h => nomatch h) (by simp), by show ((cellsFrom (s₁.heap.objs.size + 1) scope.names []).map (·.1)).Nodup; rw [← nm]; exact hnd, fun y k hy q => by
        have := above y k hy
        rw [show k = s₁.heap.objs.size from q] at this
        exact Nat.lt_irrefl _ this⟩
      builtins := rfl
      room := by show callerA.depth + 1 + 2 * 200 < recursionLimit; decide
      units := by show callerA.units + 3 + 40 * 200 < cLine; decide
      frames := rfl
      topk := ⟨hk, rfl, rfl, hgen, hco⟩
      low := modules_low T.nolimit
      slots := fun a ha => by
        obtain ⟨env, he, hf⟩ := List.mem_filterMap.mp ha
        rcases List.mem_cons.mp he with rfl | he
        · left; cases hf; rfl
        · cases he
      topL := ⟨s₁.heap.objs.size, rfl, .inl rfl, noBase⟩
      slotIn := fun a ha => nomatch ha
      home := rfl
      outer := fun env he => nomatch he }
    obtain ⟨h₁, tk, rfl⟩ := x.toInCall.same
    have lay : ∀ a t mo, lawHp l ns ol a = some (t, mo) → a = l ∧ mo = .klist (ns.map .int) ol := fun a t mo e => by
      unfold lawHp at e
      split at e
      · cases e; exact ⟨by assumption, rfl⟩
      · cases e
    have noFoot : ∀ a, ¬ Foot (lawHp l ns ol) a := fun a hf => by
      rcases hf with ⟨t, mo, e, q⟩ | ⟨t, C, fs, e⟩
      · rw [(lay _ _ _ e).2] at q; cases q
      · have := (lay _ _ _ e).2; cases this
    have R : c.Rel (lawFm name scope s₁.heap.objs.size fa cd s₁.heap) (bindLo [p] [.ref l] fun _ => none) (lawHp l ns ol) s₁.heap.get? s₁ { s₁ with heap := h₁, toks := tk } := {
      same := ⟨rfl, rfl, rfl⟩
      keep := fun a o e => ⟨o.slots, hk₁ a o e, fun _ => rfl⟩
      objs := fun a t mo e => by
        obtain ⟨rfl, rfl⟩ := lay a t mo e
        exact ⟨hk₁ _ _ hol, hlc, _, nl, hld, by simpa using ints_all2 hI⟩
      wf := fun a t C fs e => by have := (lay _ _ _ e).2; cases this
      apart := fun a hf => absurd hf (noFoot a)
      ns := ⟨_, x.toInCall.ns, fun y hy => bindLo_local (ps := [p]) (as := [.ref l]) (us := [.ref l]) hy (.cons (show MV.Is (.ref l) (.ref l) from rfl) .nil) trivial⟩
      cel := fun y k hy => by
        obtain ⟨o, ho, hd⟩ := x.cell y k (lookup_of_mem_nodup (nm ▸ hnd) hy)
        exact ⟨o, _, ho, hd, bindLo_cell (ps := [p]) (as := [.ref l]) (us := [.ref l]) (cellk y k hy) (.cons (show MV.Is (.ref l) (.ref l) from rfl) .nil) trivial⟩
      frame := ⟨noBase, fun y k hy => ⟨by
        cases e : s₁.heap.get? k with
        | none => rfl
        | some o => exact absurd (Nat.lt_trans (above y k hy) (Heap.lt_size e)) (Nat.lt_irrefl _), fun q => by
        have := above y k hy
        rw [show k = s₁.heap.objs.size from q] at this
        exact Nat.lt_irrefl _ this⟩⟩
      kl := fun a t xs o e => by
        obtain ⟨rfl, q⟩ := lay _ _ _ e
        cases q
        exact hol }
    refine wuse6 (h ol (lawFm name scope s₁.heap.objs.size fa cd s₁.heap) _ s₁ _ rfl (fun _ => rfl) G R) (fun fl s'' m ρ' σ' is R'' q => ?_) fun e s'' hx => noSX_elim hx
    subst q
    obtain ⟨u, rfl, is⟩ := is
    cases is
    refine hP s'' (fun b o e => ?_) R''.same.2.2 R''.same.1
    obtain ⟨sl, e1, e2⟩ := R''.keep b o e
    rw [e1, e2 fun hm => nomatch hm]
end Mine
open PySem PySem.W PyProof.Rows
namespace Mine
set_option genInjectivity false in
structure Tab where
  glob : List (Str × MV)
  meth : List ((Nat × Str) × Nat)
  fld : List (Nat × Str)
  init : List (Nat × Nat)
  fns : List Nat
theorem lookup_mem {α β : Type} [BEq α] [LawfulBEq α] {l : List (α × β)} {x : α} {a : β} (h : l.lookup x = some a) : (x, a) ∈ l := by
  induction l with
  | nil => cases h
  | cons p r ih =>
    obtain ⟨y, b⟩ := p
    rw [List.lookup_cons] at h
    cases hy : (x == y) with
    | true => rw [hy] at h; cases h; rw [beq_iff_eq.mp hy]; exact .head _
    | false => rw [hy] at h; exact .tail _ (ih h)
def Tab.cx (t : Tab) (prog : Program) (w : World) (K : Frag) (p : Program) (loose : List Str) (mean : ExcName → Option Value) (mg mb : Str → Option Value) : Cx where
  prog := prog
  w := w
  K := K
  p := p
  loose := loose
  mean := mean
  mg := mg
  mb := mb
  glob := fun x => t.glob.lookup x
  meth := fun C x => t.meth.lookup (C, x)
  fld := fun C x => t.fld.contains (C, x)
  init := fun C => t.init.lookup C
  fns := fun a => t.fns.contains a
def methOk (K : Frag) (C : Nat) (x : Str) (a : Nat) : Prop := plainGet K C x = true ∧ findIn K (.ref C) x = some (some (.ref a)) ∧ isFn K (.ref a) = true ∧ keepIn K (.ref a) = true
def fldOk (K : Frag) (C : Nat) (x : Str) : Prop := plainGet K C x = true ∧ hasDictIn K C = true ∧ findIn K (.ref C) x = some none ∧ findIn K (.ref C) "__setattr__" = some (some (.builtin "object.__setattr__")) ∧ plainOver K C = true ∧ takerIn K C x = some none
def initOk (K : Frag) (C a : Nat) : Prop := makesIn K C = true ∧ findIn K (.ref C) "__init__" = some (some (.ref a)) ∧ isFn K (.ref a) = true ∧ keepIn K (.ref C) = true
def globOk (K : Frag) (x : Str) (v : MV) : Prop := (x == ("__debug__" : Str)) = false ∧ ((∃ u, nsIn K mainGlobals x = some (some u) ∧ v.Is u) ∨ (nsIn K mainGlobals x = some none ∧ x ≠ "__name__" ∧ ∃ u, bootBuiltins x = some u ∧ v.Is u))
theorem Tab.ok {t : Tab} {prog : Program} {w : World} {K : Frag} {p : Program} {loose : List Str} {mean : ExcName → Option Value} {mg mb : Str → Option Value}
    (hg : ∀ q ∈ t.glob, globOk K q.1 q.2) (hm : ∀ q ∈ t.meth, methOk K q.1.1 q.1.2 q.2) (hf : ∀ q ∈ t.fld, fldOk K q.1 q.2) (hi : ∀ q ∈ t.init, initOk K q.1 q.2) (hn : ∀ a ∈ t.fns, keepIn K (.ref a) = true) : CxOk (t.cx prog w K p loose mean mg mb) where
  glob := fun x v h => hg (x, v) (mem_lookup h)
  meth := fun C x a h => hm ((C, x), a) (lookup_mem h)
  fld := fun C x h => hf (C, x) (List.contains_iff_mem.mp h)
  init := fun C a h => hi (C, a) (lookup_mem h)
  fns := fun a h => hn a (List.contains_iff_mem.mp h)
theorem all_nil {α : Type} {P : α → Prop} : ∀ q ∈ ([] : List α), P q := fun _ h => nomatch h
theorem all_cons {α : Type} {P : α → Prop} {a : α} {l : List α} (h : P a) (t : ∀ q ∈ l, P q) : ∀ q ∈ a :: l, P q := fun q hq => by
  rcases List.mem_cons.mp hq with rfl | hq
  · exact h
  · exact t q hq
theorem globRef {K : Frag} {x : Str} {a : Nat} (h0 : (x == ("__debug__" : Str)) = false) (h : nsIn K mainGlobals x = some (some (.ref a))) : globOk K x (.ref a) := ⟨h0, .inl ⟨_, h, rfl⟩⟩
theorem globInt {K : Frag} {x : Str} {n : Int} {t : Tok} (h0 : (x == ("__debug__" : Str)) = false) (h : nsIn K mainGlobals x = some (some (.int n t))) : globOk K x (.int n) := ⟨h0, .inl ⟨_, h, t, rfl⟩⟩
theorem globStr {K : Frag} {x : Str} {n : Str} {t : Tok} (h0 : (x == ("__debug__" : Str)) = false) (h : nsIn K mainGlobals x = some (some (.str n t))) : globOk K x (.str n) := ⟨h0, .inl ⟨_, h, t, rfl⟩⟩
theorem globBuiltin {K : Frag} {x : Str} {u : Value} (h0 : (x == ("__debug__" : Str)) = false) (h : nsIn K mainGlobals x = some none) (h1 : x ≠ "__name__") (h2 : bootBuiltins x = some u) : globOk K x (.con u) := ⟨h0, .inr ⟨h, h1, u, h2, rfl⟩⟩
theorem Lo.put_self {ρ : Lo} {x : Str} {v : MV} : (ρ.put x v) x = some v := by simp [Lo.put]
theorem Lo.put_ne {ρ : Lo} {x y : Str} {v : MV} {r : Option MV} (h : (y == x) = false) (e : ρ y = r) : (ρ.put x v) y = r := by
  rw [beq_eq_false_iff_ne] at h
  simp [Lo.put, h, e]
theorem Hp.self {σ : Hp} {a t : Nat} {o : MO} : (σ.put a t o) a = some (t, o) := Hp.put_self ..
theorem Hp.ne {σ : Hp} {a b t : Nat} {o : MO} {r : Option (Nat × MO)} (h : b ≠ a) (e : σ b = r) : (σ.put a t o) b = r := by rw [Hp.put_ne _ _ _ h]; exact e
theorem us0 {P : List Value → Prop} (h : P []) (us : List Value) (hl : us.length = 0) : P us := by
  rw [List.eq_nil_of_length_eq_zero hl]; exact h
theorem usS {k : Nat} {P : List Value → Prop} (h : ∀ u (us : List Value), us.length = k → P (u :: us)) (us : List Value) (hl : us.length = k + 1) : P us := by
  cases us with
  | nil => exact absurd hl (Nat.succ_ne_zero k).symm
  | cons u t => exact h u t (Nat.succ.inj hl)
theorem us1 {P : List Value → Prop} (h : ∀ u, P [u]) : ∀ us : List Value, us.length = 1 → P us := usS fun u => us0 (h u)
theorem us2 {P : List Value → Prop} (h : ∀ u v, P [u, v]) : ∀ us : List Value, us.length = 2 → P us := usS fun u => us1 (h u)
theorem us3 {P : List Value → Prop} (h : ∀ u v w, P [u, v, w]) : ∀ us : List Value, us.length = 3 → P us := usS fun u => us2 (h u)
theorem us4 {P : List Value → Prop} (h : ∀ u v w x, P [u, v, w, x]) : ∀ us : List Value, us.length = 4 → P us := usS fun u => us3 (h u)
theorem us5 {P : List Value → Prop} (h : ∀ u v w x y, P [u, v, w, x, y]) : ∀ us : List Value, us.length = 5 → P us := usS fun u => us4 (h u)
theorem us6 {P : List Value → Prop} (h : ∀ u v w x y z, P [u, v, w, x, y, z]) : ∀ us : List Value, us.length = 6 → P us := usS fun u => us5 (h u)
end Mine
open PySem PySem.W PyProof.Rows
namespace Mine
abbrev ρ0 : Lo := fun _ => none
section
variable {c : Cx} {n : Nat} {hn : Bool} {sc : Scope} {a : Nat} {body : List Stmt} {scope : Scope} {ρ : Lo} {Q : MV → Hp → Prop} {X : EX} {σ : Hp} {p1 p2 p3 p4 p5 p6 p7 : Str} {a1 a2 a3 a4 a5 a6 a7 : MV}
theorem WFn.fn1 (F : FnAt c a [p1] body scope) (h : WSs c ⟨n, hn, scope⟩ body (ρ0.put p1 a1) (fun m _ σ' => Q m.val σ') noSX σ) : WFn c ⟨n + 1, hn, sc⟩ a [a1] ρ Q X σ := WFn.fn F rfl h
theorem WFn.fn2 (F : FnAt c a [p1, p2] body scope) (h : WSs c ⟨n, hn, scope⟩ body ((ρ0.put p1 a1).put p2 a2) (fun m _ σ' => Q m.val σ') noSX σ) : WFn c ⟨n + 1, hn, sc⟩ a [a1, a2] ρ Q X σ := WFn.fn F rfl h
theorem WFn.fn3 (F : FnAt c a [p1, p2, p3] body scope) (h : WSs c ⟨n, hn, scope⟩ body (((ρ0.put p1 a1).put p2 a2).put p3 a3) (fun m _ σ' => Q m.val σ') noSX σ) : WFn c ⟨n + 1, hn, sc⟩ a [a1, a2, a3] ρ Q X σ := WFn.fn F rfl h
theorem WFn.fn4 (F : FnAt c a [p1, p2, p3, p4] body scope) (h : WSs c ⟨n, hn, scope⟩ body ((((ρ0.put p1 a1).put p2 a2).put p3 a3).put p4 a4) (fun m _ σ' => Q m.val σ') noSX σ) : WFn c ⟨n + 1, hn, sc⟩ a [a1, a2, a3, a4] ρ Q X σ := WFn.fn F rfl h
theorem WFn.fn5 (F : FnAt c a [p1, p2, p3, p4, p5] body scope) (h : WSs c ⟨n, hn, scope⟩ body (((((ρ0.put p1 a1).put p2 a2).put p3 a3).put p4 a4).put p5 a5) (fun m _ σ' => Q m.val σ') noSX σ) : WFn c ⟨n + 1, hn, sc⟩ a [a1, a2, a3, a4, a5] ρ Q X σ := WFn.fn F rfl h
theorem WFn.fn6 (F : FnAt c a [p1, p2, p3, p4, p5, p6] body scope) (h : WSs c ⟨n, hn, scope⟩ body ((((((ρ0.put p1 a1).put p2 a2).put p3 a3).put p4 a4).put p5 a5).put p6 a6) (fun m _ σ' => Q m.val σ') noSX σ) : WFn c ⟨n + 1, hn, sc⟩ a [a1, a2, a3, a4, a5, a6] ρ Q X σ := WFn.fn F rfl h
end
theorem lk_head {α : Type} {x : Str} {v : α} {r : List (Str × α)} : ((x, v) :: r).lookup x = some v := by simp [List.lookup_cons]
theorem lk_tail {α : Type} {x y : Str} {v : α} {r : List (Str × α)} {o : Option α} (h : (x == y) = false) (e : r.lookup x = o) : ((y, v) :: r).lookup x = o := by rw [List.lookup_cons, h]; exact e
section
variable {c : Cx} {i : Ix} {ρ : Lo} {σ : Hp} {X : EX}
theorem WSet.inst' {a t C : Nat} {name : Str} {fs fs' : List (Str × MV)} {v : MV} {Q : Unit → Hp → Prop} (e : σ a = some (t, .inst C fs)) (hf : c.fld C name = true) (hp : putF name v fs = fs') (hl : fs.length < 900) (h : Q () (σ.put a t (.inst C fs'))) : WSet c i (.ref a) name v ρ Q X σ := WSet.inst e hf hl (by rw [hp]; exact h)
end
section
variable {c : Cx} {n : Nat} {hn : Bool} {sc : Scope} {ρ : Lo} {σ : Hp}
theorem WE.localA {X : EX} {Q : MV → Hp → Prop} {x pos v} (hl : sc.names.lookup x = some .local) (hd : (x == ("__debug__" : Str)) = false) (hv : ρ x = some v) (h : Q v σ) : WE c ⟨n, hn, sc⟩ (.Name x pos) ρ Q X σ := WE.local hl hd hv h
theorem WE.cellA {X : EX} {Q : MV → Hp → Prop} {x pos v} (hl : sc.names.lookup x = some .cell) (hd : (x == ("__debug__" : Str)) = false) (hv : ρ x = some v) (h : Q v σ) : WE c ⟨n, hn, sc⟩ (.Name x pos) ρ Q X σ := WE.cell hl hd hv h
theorem WE.globalA {X : EX} {Q : MV → Hp → Prop} {x pos v} (hl : sc.names.lookup x = some .globalImplicit) (hv : c.glob x = some v) (h : Q v σ) : WE c ⟨n, hn, sc⟩ (.Name x pos) ρ Q X σ := WE.global hl hv h
theorem WSt.localA {X : SX} {x v} {Q : Lo → Hp → Prop} (hl : sc.names.lookup x = some .local) (h : Q (ρ.put x v) σ) : WSt c ⟨n, hn, sc⟩ x v ρ Q X σ := WSt.local hl h
theorem WSt.cellA {X : SX} {x v} {Q : Lo → Hp → Prop} (hl : sc.names.lookup x = some .cell) (h : Q (ρ.put x v) σ) : WSt c ⟨n, hn, sc⟩ x v ρ Q X σ := WSt.cell hl h
end
theorem if_tt {A B : Prop} (h : A) : if true = true then A else B := h
theorem if_ff {A B : Prop} (h : B) : if false = true then A else B := h
theorem if_nt {A B : Prop} (h : B) : if (!true) = true then A else B := h
theorem if_nf {A B : Prop} (h : A) : if (!false) = true then A else B := h
theorem Callee.con {c : Cx} {v : Value} (h : (match v with | .ref _ => false | _ => true) = true) : Callee c (.con v) := fun a e => by subst e; cases h
theorem Callee.fn {c : Cx} {a : Nat} (h : c.fns a = true) : Callee c (.ref a) := .inl h
theorem Callee.meth {c : Cx} {a C : Nat} {x : Str} (h : c.meth C x = some a) : Callee c (.ref a) := .inr (.inl ⟨C, x, h⟩)
theorem Callee.cls {c : Cx} {a b : Nat} (h : c.init a = some b) : Callee c (.ref a) := .inr (.inr ⟨b, h⟩)
section
variable {c : Cx} {i : Ix} {ρ : Lo} {σ : Hp} {X : SX} {Q : MF → Lo → Hp → Prop}
end
end Mine
open PySem PySem.W PyProof.Rows
namespace Mine
theorem Hp.new {σ : Hp} {a b t : Nat} {o : MO} {p : Nat × MO} (h : σ b = Option.none) (e : σ a = some p) : (σ.put b t o) a = some p :=
  Hp.ne (fun q => by rw [q, h] at e; exact nomatch e) e
theorem Hp.tag {σ : Hp} {a b t t' : Nat} {o o' q : MO} (h : σ b = some (t, q)) (ht : t' ≠ t) (e : σ a = some (t', o')) : (σ.put b t o) a = some (t', o') :=
  Hp.ne (fun q => by rw [q, h] at e; exact ht (congrArg Prod.fst (Option.some.inj e)).symm) e
structure Oth (t : Nat) (σ σ' : Hp) : Prop where
  all : ∀ a t' o, σ a = some (t', o) → t' ≠ t → σ' a = some (t', o)
theorem Oth.at {t : Nat} {σ σ' : Hp} (h : Oth t σ σ') {a t' : Nat} {o : MO} (e : σ a = some (t', o)) (n : t' ≠ t) : σ' a = some (t', o) := h.all a t' o e n
theorem Oth.refl {t : Nat} {σ : Hp} : Oth t σ σ := ⟨fun _ _ _ h _ => h⟩
theorem Oth.trans {t : Nat} {σ σ' σ'' : Hp} (h : Oth t σ σ') (k : Oth t σ' σ'') : Oth t σ σ'' := ⟨fun _ _ _ e n => k.at (h.at e n) n⟩
theorem Oth.new {t b : Nat} {o : MO} {σ σ' : Hp} (h : Oth t σ σ') (hb : σ' b = Option.none) {t' : Nat} : Oth t σ (σ'.put b t' o) := ⟨fun _ _ _ e n => Hp.new hb (h.at e n)⟩
theorem Oth.put {t b : Nat} {o q : MO} {σ σ' : Hp} (h : Oth t σ σ') (hb : σ' b = some (t, q)) : Oth t σ (σ'.put b t o) := ⟨fun _ _ _ e n => Hp.tag hb n (h.at e n)⟩
structure Kpt (t : Nat) (σ σ' : Hp) : Prop where
  all : ∀ a o, σ a = some (t, o) → σ' a = some (t, o)
theorem Kpt.at {t : Nat} {σ σ' : Hp} (h : Kpt t σ σ') {a : Nat} {o : MO} (e : σ a = some (t, o)) : σ' a = some (t, o) := h.all a o e
theorem Kpt.new {t b : Nat} {o : MO} {σ : Hp} (hb : σ b = Option.none) {t' : Nat} : Kpt t σ (σ.put b t' o) := ⟨fun _ _ e => Hp.new hb e⟩
theorem Kpt.put {t t' b : Nat} {o q : MO} {σ : Hp} (hb : σ b = some (t', q)) (n : t ≠ t') : Kpt t σ (σ.put b t' o) := ⟨fun _ _ e => Hp.tag hb n e⟩
theorem Oth.kpt {t t' : Nat} {σ σ' : Hp} (h : Oth t σ σ') (n : t' ≠ t) : Kpt t' σ σ' := ⟨fun _ _ e => h.at e n⟩
theorem Hp.put_put {σ : Hp} {a t t' : Nat} {o o' : MO} : (σ.put a t o).put a t' o' = σ.put a t' o' := by
  funext b
  unfold Hp.put
  split <;> rfl
theorem ListAt.k {σ : Hp} {a t : Nat} {xs : List MV} {o : Obj} (h : σ a = some (t, .klist xs o)) : ListAt σ a xs := ⟨t, .inr ⟨o, h⟩⟩
section
variable {c : Cx} {i : Ix}
theorem WFor.byIdx' {x : Str} {body : List Stmt} {still : Hp → Prop} {Q : MF → Lo → Hp → Prop} {items : List MV} (Inv : Nat → Lo → Hp → Prop)
    (hs : ∀ k v ρ σ, items[k]? = some v → Inv k ρ σ → still σ ∧ WSt c i x v ρ (fun ρ₁ σ₁ => WSs c i body ρ₁ (fun m ρ₂ σ₂ => match m with
      | .next | .cont => Inv (k + 1) ρ₂ σ₂
      | .brk => Q .next ρ₂ σ₂
      | .ret u => Q (.ret u) ρ₂ σ₂) noSX σ₁) noSX σ)
    (he : ∀ ρ σ, Inv items.length ρ σ → still σ ∧ Q .next ρ σ) : ∀ (n k : Nat) (ρ : Lo) (σ : Hp), n + k = items.length → Inv k ρ σ → WFor c i x body still Q (items.drop k) ρ σ
  | 0, k, ρ, σ, hk, h => by
    rw [List.drop_eq_nil_of_le (by omega)]
    exact he ρ σ (by rw [← hk, Nat.zero_add]; exact h)
  | n + 1, k, ρ, σ, hk, h => by
    have hlt : k < items.length := by omega
    rw [List.drop_eq_getElem_cons hlt]
    obtain ⟨h1, h2⟩ := hs k _ ρ σ (List.getElem?_eq_getElem hlt) h
    refine ⟨h1, ?_⟩
    intro u hu f fr z s a b g R
    refine wpAny_mono (h2 u hu f fr z s a b g R) (fun _ s' hq => ?_) (fun _ _ hx => hx)
    obtain ⟨ρ', σ', R', hw⟩ := hq
    refine ⟨ρ', σ', R', ?_⟩
    refine S.mono hw fun m ρ₂ σ₂ hm => ?_
    cases m with
    | next => exact WFor.byIdx' Inv hs he n (k + 1) ρ₂ σ₂ (by omega) hm
    | cont => exact WFor.byIdx' Inv hs he n (k + 1) ρ₂ σ₂ (by omega) hm
    | brk => exact hm
    | ret u => exact hm
theorem WFor.byIdx {x : Str} {body : List Stmt} {still : Hp → Prop} {Q : MF → Lo → Hp → Prop} {items : List MV} {ρ : Lo} {σ : Hp} (Inv : Nat → Lo → Hp → Prop) (h0 : Inv 0 ρ σ)
    (hs : ∀ k v ρ σ, items[k]? = some v → Inv k ρ σ → still σ ∧ WSt c i x v ρ (fun ρ₁ σ₁ => WSs c i body ρ₁ (fun m ρ₂ σ₂ => match m with
      | .next | .cont => Inv (k + 1) ρ₂ σ₂
      | .brk => Q .next ρ₂ σ₂
      | .ret u => Q (.ret u) ρ₂ σ₂) noSX σ₁) noSX σ)
    (he : ∀ ρ σ, Inv items.length ρ σ → still σ ∧ Q .next ρ σ) : WFor c i x body still Q items ρ σ := by
  have := WFor.byIdx' Inv hs he items.length 0 ρ σ (by omega) h0
  simpa using this
theorem upTo_length {lo hi : Int} : (upTo lo hi).length = (hi - lo).toNat := by simp [upTo]
theorem upTo_at {lo hi : Int} {k : Nat} {v : MV} (h : (upTo lo hi)[k]? = some v) : v = .int (lo + (k : Int)) ∧ lo + (k : Int) < hi := by
  unfold upTo at h
  rw [List.getElem?_map] at h
  cases q : (List.range (hi - lo).toNat)[k]? with
  | none => rw [q] at h; simp at h
  | some j =>
    rw [q] at h
    have hlt : k < (List.range (hi - lo).toNat).length := (List.getElem?_eq_some_iff.mp q).1
    rw [List.length_range] at hlt
    rw [List.getElem?_range hlt] at q
    cases q
    cases h
    exact ⟨rfl, by omega⟩
theorem le0 {m : Int} (h : 1 ≤ m) : 0 ≤ m := Int.le_trans (by decide) h
theorem lt0 {m : Int} (h : 1 ≤ m) : 0 < m := Int.lt_of_lt_of_le (by decide) h
theorem fmod_ge (a : Int) {m : Int} (h : 1 ≤ m) : 0 ≤ a.fmod m := Int.fmod_nonneg_of_pos _ (lt0 h)
theorem fmod_lt (a : Int) {m : Int} (h : 1 ≤ m) : a.fmod m < m := Int.fmod_lt_of_pos _ (lt0 h)
theorem itR {σ : Hp} {a t : Nat} {n : Int} (e : σ a = some (t, .range 0 n)) (h0 : 0 ≤ n) (h1 : n ≤ 1000000) : Iterable σ (.ref a) (upTo 0 n) (fun _ => True) := .range e (by decide) (by decide) (by omega) (by omega)
theorem upTo_le {n : Int} (h1 : n ≤ 1000000) : (upTo 0 n).length ≤ 1000000 := by rw [upTo_length]; omega
theorem WFor.upTo {x : Str} {body : List Stmt} {Q : MF → Lo → Hp → Prop} {n : Int} {ρ : Lo} {σ : Hp} (Inv : Nat → Lo → Hp → Prop) (h0 : Inv 0 ρ σ)
    (hs : ∀ (k : Nat) ρ σ, (k : Int) < n → Inv k ρ σ → WSt c i x (.int (k : Int)) ρ (fun ρ₁ σ₁ => WSs c i body ρ₁ (fun m ρ₂ σ₂ => match m with
      | .next | .cont => Inv (k + 1) ρ₂ σ₂
      | .brk => Q .next ρ₂ σ₂
      | .ret u => Q (.ret u) ρ₂ σ₂) noSX σ₁) noSX σ)
    (he : ∀ ρ σ, Inv n.toNat ρ σ → Q .next ρ σ) : WFor c i x body (fun _ => True) Q (upTo 0 n) ρ σ := by
  refine WFor.byIdx Inv h0 (fun k v ρ σ hv hI => ⟨trivial, ?_⟩) fun ρ σ h => ⟨trivial, he ρ σ ?_⟩
  · obtain ⟨rfl, hlt⟩ := upTo_at hv
    rw [Int.zero_add] at hlt ⊢
    exact hs k ρ σ hlt hI
  · rw [upTo_length, Int.sub_zero] at h; exact h
def tabl (n : Int) (g : Nat → MV) : List MV := (List.range n.toNat).map g
theorem WComp.pure' {x : Str} {elt : Expr} {still : Hp → Prop} {Q : List MV → Hp → Prop} {ρ : Lo} {σ : Hp} (hst : still σ) {f : MV → MV} : ∀ {items acc : List MV} (h : ∀ v ∈ items, ∀ K : MV → Hp → Prop, K (f v) σ → WE c i elt (ρ.put x v) K noX σ)
    (hq : Q (acc ++ items.map f) σ), WComp c i x elt [] still Q ρ items acc σ
  | [], acc, h, hq => ⟨hst, by simpa using hq⟩
  | v :: vs, acc, h, hq => by
    refine ⟨hst, ?_⟩
    refine (if_tt (A := WE c i elt (ρ.put x v) (fun u σ₂ => WComp c i x elt [] still Q ρ vs (acc ++ [u]) σ₂) noX σ) ?_ : ite _ _ (WComp c i x elt [] still Q ρ vs acc σ))
    refine h v (List.mem_cons_self ..) _ ?_
    exact WComp.pure' hst (fun u hu => h u (List.mem_cons_of_mem _ hu)) (by simpa using hq)
theorem WComp.upTo {x : Str} {elt : Expr} {Q : List MV → Hp → Prop} {ρ : Lo} {σ : Hp} {n : Int} (g : Nat → MV) (h : ∀ k : Nat, (k : Int) < n → ∀ K : MV → Hp → Prop, K (g k) σ → WE c i elt (ρ.put x (.int (k : Int))) K noX σ)
    (hq : Q (tabl n g) σ) : WComp c i x elt [] (fun _ => True) Q ρ (upTo 0 n) [] σ := by
  refine WComp.pure' (f := fun v => match v with | .int k => g k.toNat | _ => .none) trivial (fun v hv K hK => ?_) ?_
  · obtain ⟨k, hk⟩ := List.mem_iff_getElem?.mp hv
    obtain ⟨rfl, hlt⟩ := upTo_at hk
    rw [Int.zero_add] at hlt hK ⊢
    exact h k hlt K (by simpa using hK)
  · simpa [Mine.upTo, tabl, Function.comp_def] using hq
end
section
variable {c : Cx} {i : Ix} {ρ : Lo} {σ : Hp} {X : EX} {Q : MV → Hp → Prop}
theorem WC.isNN  (h : Q (.bool true) σ) : WC c i .Is .none .none ρ Q X σ := WC.isNone rfl h
theorem WC.isNS {x} (h : Q (.bool false) σ) : WC c i .Is (.str x) .none ρ Q X σ := WC.isNone rfl h
theorem WC.inS_t {a t es k v} (hd : σ a = some (t, .sdict es)) (hg : getK es k = some v) (h : Q (.bool true) σ) : WC c i .In (.str k) (.ref a) ρ Q X σ := WC.inS hd (by rw [hg]; exact h)
theorem WC.inS_f {a t es k} (hd : σ a = some (t, .sdict es)) (hg : getK es k = Option.none) (h : Q (.bool false) σ) : WC c i .In (.str k) (.ref a) ρ Q X σ := WC.inS hd (by rw [hg]; exact h)
theorem WC.notInS_t {a t es k v} (hd : σ a = some (t, .sdict es)) (hg : getK es k = some v) (h : Q (.bool false) σ) : WC c i .NotIn (.str k) (.ref a) ρ Q X σ := WC.notInS hd (by rw [hg]; exact h)
theorem WC.notInS_f {a t es k} (hd : σ a = some (t, .sdict es)) (hg : getK es k = Option.none) (h : Q (.bool true) σ) : WC c i .NotIn (.str k) (.ref a) ρ Q X σ := WC.notInS hd (by rw [hg]; exact h)
end
section
variable {c : Cx} {i : Ix} {ρ : Lo} {σ : Hp}
theorem gN {x pos} {Q : MV → Hp → Prop} {X : EX} (h : WE c i (.Name x pos) ρ Q X σ) : WE c i (.Name x pos) ρ Q X σ := h
theorem gE {e} {Q : MV → Hp → Prop} {X : EX} (h : WE c i e ρ Q X σ) : WE c i e ρ Q X σ := h
theorem gEs {p es} {Q : List MV → Hp → Prop} {X : EX} (h : WEs c i p es ρ Q X σ) : WEs c i p es ρ Q X σ := h
theorem gT {e} {Q : Bool → Hp → Prop} {X : EX} (h : WT c i e ρ Q X σ) : WT c i e ρ Q X σ := h
theorem gS {e} {Q : MF → Lo → Hp → Prop} {X : SX} (h : WS c i e ρ Q X σ) : WS c i e ρ Q X σ := h
theorem gSs {e} {Q : MF → Lo → Hp → Prop} {X : SX} (h : WSs c i e ρ Q X σ) : WSs c i e ρ Q X σ := h
theorem gTr {m} {Q : Bool → Hp → Prop} {X : EX} (h : WTr c i m ρ Q X σ) : WTr c i m ρ Q X σ := h
theorem gA {op es p t} {Q : Bool → Hp → Prop} {X : EX} (h : WA c i op es p t ρ Q X σ) : WA c i op es p t ρ Q X σ := h
theorem gB {op a b} {Q : MV → Hp → Prop} {X : EX} (h : WB c i op a b ρ Q X σ) : WB c i op a b ρ Q X σ := h
theorem gI {op a b} {Q : MV → Hp → Prop} {X : EX} (h : WI c i op a b ρ Q X σ) : WI c i op a b ρ Q X σ := h
theorem gC {op a b} {Q : MV → Hp → Prop} {X : EX} (h : WC c i op a b ρ Q X σ) : WC c i op a b ρ Q X σ := h
theorem gU {op a} {Q : MV → Hp → Prop} {X : EX} (h : WU c i op a ρ Q X σ) : WU c i op a ρ Q X σ := h
theorem gSub {v s a b} {Q : MV → Hp → Prop} {X : EX} (h : WSub c i v s a b ρ Q X σ) : WSub c i v s a b ρ Q X σ := h
theorem gSt {x v} {Q : Lo → Hp → Prop} {X : SX} (h : WSt c i x v ρ Q X σ) : WSt c i x v ρ Q X σ := h
theorem if_pt {b : Bool} {A B : Prop} (hb : b = true) (h : A) : if b = true then A else B := by rw [if_pos hb]; exact h
theorem if_pf {b : Bool} {A B : Prop} (hb : b = false) (h : B) : if b = true then A else B := by rw [hb]; exact h
theorem if_dt {p : Prop} [Decidable p] {A B : Prop} (hp : p) (h : A) : if decide p = true then A else B := by rw [if_pos (decide_eq_true hp)]; exact h
theorem if_df {p : Prop} [Decidable p] {A B : Prop} (hp : ¬ p) (h : B) : if decide p = true then A else B := by rw [decide_eq_false hp]; exact h
theorem if_et {m n : Int} {A B : Prop} (hp : m = n) (h : A) : if (m == n) = true then A else B := by rw [if_pos (by simpa using hp)]; exact h
theorem if_ef {m n : Int} {A B : Prop} (hp : m ≠ n) (h : B) : if (m == n) = true then A else B := by rw [if_neg (by simpa using hp)]; exact h
theorem WE.sub' {v sl pos} {Q : MV → Hp → Prop} {X : EX} (hs : NoSlice sl) (h : WE c i v ρ (fun a σ₁ => WE c i sl ρ (fun b σ₂ => WSub c i v sl a b ρ Q X σ₂) X σ₁) X σ) : WE c i (.Subscript v sl pos) ρ Q X σ := WE.sub h
theorem gAttr {e n p} {Q : MV → Hp → Prop} {X : EX} (h : WE c i (.Attribute e n p) ρ Q X σ) : WE c i (.Attribute e n p) ρ Q X σ := h
theorem gMeth {o n p es ks q} {Q : MV → Hp → Prop} {X : EX} (h : WE c i (.Call (.Attribute o n p) es ks q) ρ Q X σ) : WE c i (.Call (.Attribute o n p) es ks q) ρ Q X σ := h
theorem gSubE {v sl pos} {Q : MV → Hp → Prop} {X : EX} (h : WE c i (.Subscript v sl pos) ρ Q X σ) : WE c i (.Subscript v sl pos) ρ Q X σ := h
theorem gIsi {m cv} {Q : MV → Hp → Prop} {X : EX} (h : WCall c i (.con (.builtin "isinstance")) [m, .con cv] ρ Q X σ) : WCall c i (.con (.builtin "isinstance")) [m, .con cv] ρ Q X σ := h
theorem gGetR {a : Nat} {n} {Q : MV → Hp → Prop} {X : EX} (h : WGet c i (.ref a) n ρ Q X σ) : WGet c i (.ref a) n ρ Q X σ := h
theorem gMR {a : Nat} {n} {Q : MV × List MV → Hp → Prop} {X : EX} (h : WM c i (.ref a) n ρ Q X σ) : WM c i (.ref a) n ρ Q X σ := h
theorem gSubI {v s} {a : Nat} {k : Int} {Q : MV → Hp → Prop} {X : EX} (h : WSub c i v s (.ref a) (.int k) ρ Q X σ) : WSub c i v s (.ref a) (.int k) ρ Q X σ := h
theorem gSubS {v s} {a : Nat} {k : Str} {Q : MV → Hp → Prop} {X : EX} (h : WSub c i v s (.ref a) (.str k) ρ Q X σ) : WSub c i v s (.ref a) (.str k) ρ Q X σ := h
theorem gInS {a : Nat} {k : Str} {Q : MV → Hp → Prop} {X : EX} (h : WC c i .In (.str k) (.ref a) ρ Q X σ) : WC c i .In (.str k) (.ref a) ρ Q X σ := h
theorem gNotInS {a : Nat} {k : Str} {Q : MV → Hp → Prop} {X : EX} (h : WC c i .NotIn (.str k) (.ref a) ρ Q X σ) : WC c i .NotIn (.str k) (.ref a) ρ Q X σ := h
theorem gMul {a b : Int} {Q : MV → Hp → Prop} {X : EX} (h : WB c i .Mult (.int a) (.int b) ρ Q X σ) : WB c i .Mult (.int a) (.int b) ρ Q X σ := h
theorem gIfD {p : Prop} [Decidable p] {A B : Prop} (h : if decide p = true then A else B) : if decide p = true then A else B := h
theorem gIfE {m n : Int} {A B : Prop} (h : if (m == n) = true then A else B) : if (m == n) = true then A else B := h
theorem gIf {b : Bool} {A B : Prop} (h : if b = true then A else B) : if b = true then A else B := h
end
end Mine
open PySem PySem.W PyProof.Rows
namespace Mine
section
variable {c : Cx} {i : Ix} {ρ : Lo} {σ : Hp} {X : EX} {Q : MV → Hp → Prop}
theorem strsOf : ∀ {ys : List Str} {vs : List Value}, All2 MV.Is (ys.map .str) vs → StrsAre vs ys
  | [], _, .nil => .nil
  | y :: ys, _, .cons ⟨t, e⟩ h => by subst e; exact .cons y t (strsOf h)
theorem WC.notInL {a : Nat} {ys : List Str} {k : Str} (hl : ListAt σ a (ys.map .str)) (h : Q (.bool (!(ys.any (· == k)))) σ) : WC c i .NotIn (.str k) (.ref a) ρ Q X σ := fun v u iv iu f fr z s _ _ g R => by
  obtain ⟨t, rfl⟩ := iv
  cases iu
  obtain ⟨its, hi, r⟩ := R.isList hl
  exact notin_list_strs (vs := its.toList) (by simpa using hi) (strsOf r) ⟨.bool _, σ, rfl, R, h⟩
theorem WM.dictPop {a t es} {Q : MV × List MV → Hp → Prop} (hl : σ a = some (t, .sdict es)) (h : Q (.con (.builtin "dict.pop"), [.ref a]) σ) : WM c i (.ref a) "pop" ρ Q X σ := fun v pl iv f fr z s _ _ g R => by
  cases iv
  obtain ⟨l, kvs, hk, r⟩ := Rel.sdict R hl
  exact getMethod_builtin (T := "dict") hk.typeIs PySem.F.plainAttrs_dict PySem.F.slot_dict_pop PySem.F.type_dict_pop (fun b e => by cases e; obtain ⟨o, es', ep, ho, hx, _⟩ := hk; exact ⟨o, ho, hx.2.1⟩) ⟨(.con (.builtin "dict.pop"), [.ref a]), σ, ⟨rfl, .cons rfl .nil⟩, R, h⟩
theorem WCall.dictPop {a t : Nat} {es : List (Str × MV)} {k : Str} {v : MV} (hd : σ a = some (t, .sdict es)) (hz : es.length ≤ 1000000) (hv : getK es k = some v) (h : Q v (σ.put a t (.sdict (delK es k)))) : WCall c i (.con (.builtin "dict.pop")) [.ref a, .str k] ρ Q X σ := fun v' us iv iu f fr z s _ _ g R => by
  cases iv
  obtain ⟨u1, u2, rfl, i1, i2⟩ := iu.two
  cases i1
  obtain ⟨tk, rfl⟩ := i2
  obtain ⟨l, kvs, hk, r⟩ := Rel.sdict R hd
  obtain ⟨u, hu, is⟩ := getK_some r hv
  refine call_meetsIn PySem.F.slot_dict_pop hk.typeIs PySem.F.entry_dict_pop (PySem.F.args_dict_pop_2 _ _) (meets_dict_pop_there (PySem.strKind c.prog c.w) a (PySem.strKind_is _ _ k tk) [] (.inl rfl) rfl)
    ⟨kvs, u, hk, size_ok (by rw [← r.length]; exact hz), hu, fun h' hk' hs => ⟨v, _, is, R.upd (t' := t) (mo' := .sdict (delK es k)) hd rfl rfl (.of_same hs (R.neL hd)) ⟨l, ?_⟩, h⟩⟩
  obtain ⟨o, ho, hd'⟩ := Heap.dictOf_iff.mp hk'
  exact ⟨o, ho, _, hd', delK_all r k⟩
theorem all2_drop {α β : Type} {Rl : α → β → Prop} : ∀ (k : Nat) {l : List α} {m : List β}, All2 Rl l m → All2 Rl (l.drop k) (m.drop k)
  | 0, _, _, h => h
  | k + 1, _, _, .nil => .nil
  | k + 1, _, _, .cons _ h => all2_drop k h
theorem all2_take {α β : Type} {Rl : α → β → Prop} : ∀ (k : Nat) {l : List α} {m : List β}, All2 Rl l m → All2 Rl (l.take k) (m.take k)
  | 0, _, _, _ => .nil
  | k + 1, _, _, .nil => .nil
  | k + 1, _, _, .cons r h => .cons r (all2_take k h)
theorem pick_both (items : Array Value) (a b : Nat) (h : a ≤ b) : slicePick items (some (a : Int)) (some (b : Int)) Option.none = ((items.toList.take b).drop a).toArray := by
  rw [slicePick_plain]
  simp only [Option.elim, clipAt_nat]
  congr 1
  rw [List.drop_take]
  rcases Nat.le_total b items.size with hb | hb
  · rw [Nat.min_eq_left hb, Nat.min_eq_left (Nat.le_trans h hb)]
  · rw [Nat.min_eq_right hb]
    rcases Nat.le_total a items.size with ha | ha
    · rw [Nat.min_eq_left ha, List.take_of_length_le (by simp), List.take_of_length_le (by simp; omega)]
    · rw [Nat.min_eq_right ha, List.drop_of_length_le (by simp), List.drop_of_length_le (by simpa using ha)]; simp
theorem WE.sliceBoth {nm np lo hi p pos} (t : Nat) (h : WE c i (.Name nm np) ρ (fun a σ₁ => WE c i lo ρ (fun b σ₂ => WE c i hi ρ (fun d σ₃ => ∃ l xs, ∃ j k : Nat, a = .ref l ∧ b = .int j ∧ d = .int k ∧ j ≤ k ∧ ListAt σ₃ l xs ∧ xs.length ≤ 1000000 ∧
    ∀ B, Fresh σ₃ B → Q (.ref B) (σ₃.put B t (.list ((xs.take k).drop j)))) X σ₂) X σ₁) X σ) : WE c i (.Subscript (.Name nm np) (.Slice (some lo) (some hi) Option.none p) pos) ρ Q X σ := fun f fr z s a b g R => by
  refine wpAny_Subscript_list_slice (wuse (h f fr z s a b g R) (fun v s₁ _ σ₁ i1 R₁ h₁ => wpAny_evalPart_some (wuse (h₁ f fr z s₁ a b g R₁) (fun u s₂ _ σ₂ i2 R₂ h₂ => wpAny_evalPart_some (wpAny_mono (h₂ f fr z s₂ a b g R₂) (fun u' s₃ ⟨_, σ₃, i3, R₃, l, xs, j, k, e1, e2, e3, hjk, hl, hz, h₃⟩ => ?_) fun _ _ x => x)) fun _ _ x => x)) fun _ _ x => x)
  subst e1; subst e2; subst e3
  cases i1; obtain ⟨tk, rfl⟩ := i2; obtain ⟨tk', rfl⟩ := i3
  obtain ⟨its, hi', r⟩ := R₃.isList hl
  have e : its.size = xs.length := by rw [r.length]; simp
  refine ⟨l, its, some j, some k, rfl, hi', size_ok (by rw [e]; exact hz), .int _ _, .int _ _, ?_⟩
  rw [pick_both its j k hjk]
  have kp : ∀ b o, s₃.heap.get? b = some o → ((s₃.heap.push { cls := .type "slice", data := .fields #[.int (j : Int) tk, .int (k : Int) tk', .none] }).push { cls := .type "list", data := .seq ((its.toList.take k).drop j).toArray }).get? b = some o :=
    fun b o e => Heap.get?_push_of_some _ (Heap.get?_push_of_some _ e)
  have hD : ((s₃.heap.push { cls := .type "slice", data := .fields #[.int (j : Int) tk, .int (k : Int) tk', .none] }).push { cls := .type "list", data := .seq ((its.toList.take k).drop j).toArray }).get? (s₃.heap.objs.size + 1) = some (listOf ((its.toList.take k).drop j).toArray 0) := by
    have e1 := Heap.get?_push_size (s₃.heap.push { cls := .type "slice", data := .fields #[.int (j : Int) tk, .int (k : Int) tk', .none] }) (o := { cls := .type "list", data := .seq ((its.toList.take k).drop j).toArray }) rfl
    rw [Heap.size_push] at e1
    exact e1
  refine ⟨.ref (s₃.heap.objs.size + 1), _, rfl, R₃.alloc (mo := .list ((xs.take k).drop j)) (tk := s₃.toks) t (.of_grown kp) (Nat.le_succ _) (fun q => by cases q) ⟨_, _, hD, ?_⟩, h₃ _ fun a p e => Nat.lt_succ_of_lt (R₃.some_lt e)⟩
  simpa using all2_drop j (all2_take k r)
end
end Mine
open PySem PySem.W PyProof.Rows
namespace Mine
section
variable {M : Model} {A : Around} {E : Value → Shared → Prop} {s : Shared}
theorem entryB {base : Heap} {env : Env} {outer : List Env} {L e : Nat} {oe : Obj} {vs : Array Value} {head a0 : Value} {hadNext : Bool} {Q : Unit → Shared → Prop}
    (hfr : A.frames = some (env :: outer)) (hl : s.heap.FunFrames base (env :: outer)) (hf : env.frame = some L) (he : s.heap.get? e = some oe) (hkb : base.StaysIn s.heap) (hen : base.get? e = none) (hd : oe.data = .fields vs)
    (h0 : vs[0]? = some a0) (h2 : vs[2]? = some .none) (hQ : ∀ h', Heap.HeldW base (env :: outer) e oe.cls a0 L h' → Bare h' e → s.heap.UpToSlots h' → Q () { s with heap := h' }) :
    wpAny M A (do let a ← PySem.frameOf env; let pl ← entryPlaceOf L hadNext; let b ← EntryCells.newEntry head a .none (rawInt L) .none pl; setField (.ref e) 1 b) Q E s := by
  have hsz : 2 < vs.size := (Array.getElem?_eq_some_iff.mp h2).1
  have nfe : ∀ {h : Heap}, h.get? e = some oe → ∀ b o, h.get? b = some o → (∀ ws, o.data ≠ .fields ws) → b ≠ e := fun ho b o hb hn q => by
    subst q; rw [ho] at hb; cases hb; exact hn _ hd
  refine wpAny_bind (wpAny_frameOf_fun hfr hl hf fun h₁ hs₁ => ?_)
  refine wpAny_bind (wpAny_entryPlaceOf fun pl hpl => ?_)
  have he₁ : h₁.get? e = some oe := (hs₁.2.1 e fun hm => by
    obtain ⟨_, o, ho, hn⟩ := hl.mem hm
    rw [he] at ho; cases ho; exact hn _ hd).trans he
  have hb₁ : base.StaysIn h₁ := fun b o hb => (hs₁.2.1 b fun hm => by rw [(hl.mem hm).1] at hb; cases hb).trans (hkb b o hb)
  unfold EntryCells.newEntry newFields
  refine wpAny_bind (wpAny_newObj_type ?_ (hpl.sizeOk5 _ _ _ _ _))
  dsimp only
  generalize hob : ({ cls := .type "traceback", dict := none, data := .fields ([head, .ref L, .none, rawInt L, .none] ++ (if pl.isEmpty then List.replicate 6 Value.none else pl)).toArray } : Obj) = ob
  have hobd : ob.data = .fields ([head, .ref L, .none, rawInt L, .none] ++ (if pl.isEmpty then List.replicate 6 Value.none else pl)).toArray := by rw [← hob]
  have hobf : ob.isFreed = false := Obj.isFreed_of_fields hobd
  have he₂ := Heap.get?_push_of_some ob he₁
  refine wpAny_setField he₂ hd (Nat.lt_trans (by decide) hsz) ?_
  have ne : h₁.objs.size ≠ e := Nat.ne_of_gt (Heap.lt_size he₁)
  have hd₃ := Obj.data_mapFields hd (·.setIfInBounds 1 (Value.ref h₁.objs.size))
  have he₃ := Heap.get?_update_self (Obj.mapFields (·.setIfInBounds 1 (Value.ref h₁.objs.size))) he₂ (Obj.isFreed_of_fields hd₃)
  have old : ∀ b o, b ≠ e → h₁.get? b = some o → ((h₁.push ob).update e (Obj.mapFields (·.setIfInBounds 1 (Value.ref h₁.objs.size)))).get? b = some o := fun b o q hb =>
    (Heap.get?_update_other _ _ (Ne.symm q)).trans (Heap.get?_push_of_some _ hb)
  have upt : s.heap.UpToSlots ((h₁.push ob).update e (Obj.mapFields (·.setIfInBounds 1 (Value.ref h₁.objs.size)))) := fun b o hb hn => by
    obtain ⟨sl, q⟩ := hs₁.2.2 b o hb
    exact ⟨sl, old b _ (nfe he b o hb hn) q⟩
  refine hQ _ ⟨fun b o hb => old b o (fun q => by rw [q, hen] at hb; cases hb) (hb₁ b o hb), hen, hl.of_keeps fun b o hb hn => ?_, ?_⟩ ?_ upt
  · obtain ⟨sl, q⟩ := upt b o hb hn
    exact ⟨_, q, rfl⟩
  · refine ⟨_, _, h₁.objs.size, _, _, he₃, ⟨Obj.cls_mapFields _ _, ?_⟩, hd₃, ?_, hb₁.fresh, ne, (Heap.get?_update_other _ _ (Ne.symm ne)).trans (Heap.get?_push_size h₁ hobf), hobd, ?_⟩
    · rw [Array.getElem?_setIfInBounds_ne (by decide)]; exact h0
    · rw [Array.getElem?_setIfInBounds_self]; rw [if_pos (Nat.lt_trans (by decide) hsz)]
    · rfl
  · refine ⟨_, _, he₃, hd₃, ?_⟩
    rw [Array.getElem?_setIfInBounds_ne (by decide)]; exact h2
theorem noteB_new {base h : Heap} {env : Env} {outer : List Env} {L e : Nat} {cls : Value} {args : List Value} {Q : Unit → Shared → Prop} (hfr : A.frames = some (env :: outer)) (hf : env.frame = some L) (hkb : base.StaysIn h) (hl : h.FunFrames base (env :: outer)) (hx : Heap.MadeExcOf h s.heap e cls args)
    (hQ : ∀ h' t, Heap.HeldW base (env :: outer) e cls (.ref t) L h' → Bare h' e → h'.TupAt t args → base.get? t = none → s.heap.UpToSlots h' → Q () { s with heap := h' }) : wpAny M A (noteFrame (.ref e) env) Q E s := by
  obtain ⟨t, he, htn, ht⟩ := hx.there
  have fresh : ∀ b, h.get? b = none → base.get? b = none := fun b hb => by
    cases hq : base.get? b with
    | none => rfl
    | some o => have := hkb b o hq; rw [hb] at this; cases this
  unfold noteFrame
  rw [hf]
  dsimp only
  refine wpAny_bind (wpAny_field he rfl (x := .none) rfl ?_)
  rw [if_neg (by decide)]
  exact entryB hfr (hl.of_keeps fun b o hb _ => ⟨o, hx.keeps b o hb, rfl⟩) hf he (fun b o hb => hx.keeps b o (hkb b o hb)) (fresh e hx.new) rfl rfl rfl fun h' H B U => hQ h' t H B (Heap.TupAt.of_slots ⟨_, _, ht, rfl, rfl⟩ U) (fresh t htn) U
theorem noteB_on {base : Heap} {env : Env} {outer : List Env} {L e : Nat} {cls a0 : Value} {Q : Unit → Shared → Prop} (hfr : A.frames = some (env :: outer)) (hf : env.frame = some L) (hfl : Heap.FlyingW base (env :: outer) e cls a0 s.heap) (hB : Bare s.heap e)
    (hQ : ∀ h', Heap.HeldW base (env :: outer) e cls a0 L h' → Bare h' e → s.heap.UpToSlots h' → Q () { s with heap := h' }) : wpAny M A (noteFrame (.ref e) env) Q E s := by
  obtain ⟨f1, f2, f3, oe, vs, T, oT, ts, he, ⟨hc, h0⟩, hd, h1, hTn, hTe, hT, hdT, h3⟩ := hfl
  obtain ⟨oe', vs', he', hd', h2⟩ := hB
  rw [he] at he'; cases he'
  rw [hd] at hd'; cases hd'
  subst hc
  unfold noteFrame
  rw [hf]
  dsimp only
  refine wpAny_bind (wpAny_field he hd h1 ?_)
  rw [if_pos (show (Value.ref T != Value.none) = true from by simp)]
  refine wpAny_bind (wpAny_field hT hdT h3 ?_)
  rw [if_neg (show ¬ ((Value.none == rawInt L) = true) from by simp [rawInt])]
  refine wpAny_bind (wpAny_setField hT hdT (Array.getElem?_eq_some_iff.mp h3).1 ?_)
  have oth : ∀ b, b ≠ T → (s.heap.update T (Obj.mapFields (·.setIfInBounds 3 Value.none))).get? b = s.heap.get? b := fun b q => Heap.get?_update_other _ _ (Ne.symm q)
  have nT : ∀ b o, s.heap.get? b = some o → (∀ ws, o.data ≠ .fields ws) → b ≠ T := fun b o hb hn q => by
    subst q; rw [hT] at hb; cases hb; exact hn _ hdT
  refine entryB hfr (f3.of_keeps fun b o hb hn => ⟨o, (oth b (nT b o hb hn)).trans hb, rfl⟩) hf ((oth e (Ne.symm hTe)).trans he) (fun b o hb => (oth b fun q => by rw [q, hTn] at hb; cases hb).trans (f1 b o hb)) f2 hd h0 h2 fun h' H B U => hQ h' H B fun b o hb hn => U b o ((oth b (nT b o hb hn)).trans hb) hn
theorem flightB {base : Heap} {l : List Env} {e : Nat} {cls a0 fl : Value} {Q : Unit → Shared → Prop} (f1 : base.StaysIn s.heap) (f2 : base.get? e = none) (f3 : s.heap.FunFrames base l) (f4 : s.heap.TracedAtW base e cls a0 fl) (hB : Bare s.heap e)
    (hQ : ∀ h', Heap.FlyingW base l e cls a0 h' → Bare h' e → s.heap.UpToSlots h' → Q () { s with heap := h' }) : wpAny M A (setFlight (.ref e) none) Q E s := by
  obtain ⟨oe, vs, T, oT, ts, he, hc, hd, h1, hTn, hTe, hT, hdT, h3⟩ := f4
  obtain ⟨oe', vs', he', hd', h2⟩ := hB
  rw [he] at he'; cases he'
  rw [hd] at hd'; cases hd'
  have h3s : 3 < ts.size := (Array.getElem?_eq_some_iff.mp h3).1
  unfold setFlight
  refine wpAny_bind (wpAny_field he hd h1 ?_)
  rw [if_pos (show (Value.ref T != Value.none) = true from by simp)]
  have oth : ∀ b, b ≠ T → (s.heap.update T (Obj.mapFields (·.setIfInBounds 3 ((none : Option Addr).elim Value.none fun f => rawInt f)))).get? b = s.heap.get? b := fun b q => Heap.get?_update_other _ _ (Ne.symm q)
  have nT : ∀ b o, s.heap.get? b = some o → (∀ ws, o.data ≠ .fields ws) → b ≠ T := fun b o hb hn q => by
    subst q; rw [hT] at hb; cases hb; exact hn _ hdT
  have heT := (oth e (Ne.symm hTe)).trans he
  refine wpAny_setField hT hdT h3s (hQ _ ⟨fun b o hb => (oth b fun q => by rw [q, hTn] at hb; cases hb).trans (f1 b o hb), f2, f3.of_keeps fun b o hb hn => ⟨o, (oth b (nT b o hb hn)).trans hb, rfl⟩, ?_⟩ ⟨oe, vs, heT, hd, h2⟩ fun b o hb hn => ⟨o.slots, (oth b (nT b o hb hn)).trans hb⟩)
  exact ⟨oe, vs, T, _, _, heT, hc, hd, h1, hTn, hTe, Heap.get?_update_self _ hT (Obj.isFreed_of_fields (Obj.data_mapFields hdT _)), Obj.data_mapFields hdT _, by simp [h3s]⟩
theorem leaveB_new {base h : Heap} {env : Env} {outer : List Env} {L e : Nat} {cls : Value} {args : List Value} {Q : Unit → Shared → Prop} (hfr : A.frames = some (env :: outer)) (hf : env.frame = some L) (hkb : base.StaysIn h) (hl : h.FunFrames base (env :: outer)) (hx : Heap.MadeExcOf h s.heap e cls args)
    (hQ : ∀ h' t, Heap.FlyingW base outer e cls (.ref t) h' → Bare h' e → h'.TupAt t args → base.get? t = none → s.heap.UpToSlots h' → Q () { s with heap := h' }) : wpAny M A (leaving env (.ref e)) Q E s := by
  unfold leaving
  refine wpAny_bind (noteB_new hfr hf hkb hl hx fun h₁ t H B T tn U => ?_)
  refine flightB H.1 H.2.1 H.2.2.1 H.2.2.2 B fun h₂ F B₂ U₂ => hQ h₂ t ⟨F.1, F.2.1, F.2.2.1.2.2, F.2.2.2⟩ B₂ (T.of_slots U₂) tn (U.trans U₂)
theorem leaveB_on {base : Heap} {env : Env} {outer : List Env} {L e : Nat} {cls a0 : Value} {Q : Unit → Shared → Prop} (hfr : A.frames = some (env :: outer)) (hf : env.frame = some L) (hfl : Heap.FlyingW base (env :: outer) e cls a0 s.heap) (hB : Bare s.heap e)
    (hQ : ∀ h', Heap.FlyingW base outer e cls a0 h' → Bare h' e → s.heap.UpToSlots h' → Q () { s with heap := h' }) : wpAny M A (leaving env (.ref e)) Q E s := by
  unfold leaving
  refine wpAny_bind (noteB_on hfr hf hfl hB fun h₁ H B U => ?_)
  refine flightB H.1 H.2.1 H.2.2.1 H.2.2.2 B fun h₂ F B₂ U₂ => hQ h₂ ⟨F.1, F.2.1, F.2.2.1.2.2, F.2.2.2⟩ B₂ (U.trans U₂)
theorem landB {base : Heap} {l : List Env} {e L : Nat} {cls a0 : Value} {Q : Unit → Shared → Prop} (H : Heap.HeldW base l e cls a0 L s.heap) (hB : Bare s.heap e)
    (hQ : ∀ h', Heap.FlyingW base l e cls a0 h' → Bare h' e → s.heap.UpToSlots h' → Q () { s with heap := h' }) : wpAny M A (setFlight (.ref e) none) Q E s := flightB H.1 H.2.1 H.2.2.1 H.2.2.2 hB hQ
theorem landB_again {base : Heap} {l : List Env} {e : Nat} {cls a0 : Value} {Q : Unit → Shared → Prop} (H : Heap.FlyingW base l e cls a0 s.heap) (hB : Bare s.heap e)
    (hQ : ∀ h', Heap.FlyingW base l e cls a0 h' → Bare h' e → s.heap.UpToSlots h' → Q () { s with heap := h' }) : wpAny M A (setFlight (.ref e) none) Q E s := flightB H.1 H.2.1 H.2.2.1 H.2.2.2.at hB hQ
end
section
variable {c : Cx} {i : Ix} {ρ : Lo} {σ : Hp} {X : SX} {Q : MF → Lo → Hp → Prop}
theorem WS.raise {x : Str} {np cpos pos : Pos} {arg : Expr} {C : Nat} {newId Bn inN B nid initId : String} {bm bmN : List Value} (hn : i.hn = true) (hl : i.sc.names.lookup x = some .globalImplicit) (hg : c.glob x = some (.ref C))
    (hs : specOf c.p x = some (newId, bm)) (Fn : ExcBaseFacts Bn newId inN bmN) (FB : ExcBaseFacts B nid initId bm) (hBn : bm.contains (.type Bn) = true) (hst : noStar arg = true)
    (h : WE c i arg ρ (fun v σ₁ => ∀ e, X true C e ρ σ₁) (X.ex ρ) σ) : WS c i (.Raise (some (.Call (.Name x np) [arg] [] cpos)) none pos) ρ Q X σ := fun f fr z s a b g R => by
  obtain ⟨C', O, hm⟩ := g.top.ownAt hs
  obtain ⟨hd, ⟨u, hu, is⟩ | ⟨hno, _, u, hu, is⟩⟩ := g.ok.glob x _ hg
  · cases is
    have hmg := mg_of g.K g.top.g hu
    have hCC : C' = C := by have := O.bound; rw [hmg] at this; cases this; rfl
    subst hCC
    obtain ⟨tl, N, nm, q, bs, hdct, sn, sub, ab, col, dd, k0, k1, k2, k3, k5, mN, hC, hN, hni, T⟩ := O.own.obj
    have hp : (backTo cpos (starEach [arg] f.env)).any (·.1) = false := back_any (by simp [hst])
    refine wpAny_Raise_call_subU (C := C') (nm := nm) (q := q) (N := N) (bs := bs) (bm := tl) (hdct := hdct) (sn := sn) (sub := sub) (ab := ab) (col := col) (dd := dd) (k0 := k0) (k1 := k1) (k2 := k2) (k3 := k3) (k5 := k5)
      Fn hBn FB (mN := mN) (T.hasType FB.hasBase) (b hn) hp hni ?_
    refine Calls.Name_function_global g.kind (kindAt a hl) (Calls.loadGlobal_global (mg := c.mg) (v := .ref C') (by rw [g.globals]; exact (g.at R).g) hmg ⟨rfl, ?_⟩) hd
    have hW : WEs c i cpos [arg] ρ (fun vs σ₁ => vs.length ≤ 1 ∧ ∀ e, X true C' e ρ σ₁) (X.ex ρ) σ := WEs.cons hst (W.mono h fun v σ₁ hx => WEs.nil ⟨Nat.le_refl 1, hx⟩)
    have hw := hW f fr z s a b g R
    dsimp only at hw
    rw [starEach_cons hst] at hw ⊢
    refine Calls.evalArgs_plain (wpAny_mono hw (fun vs s₂ x => ?_) fun _ _ x => Ex.at x)
    obtain ⟨ms, σ₁, iv, R₁, hlen, hX⟩ := x
    have kp : ∀ b o, f.base.get? b = some o → s₂.heap.get? b = some o := g.keep R₁
    have hvl : vs.length ≤ 1 := by rw [← iv.length]; exact hlen
    exact ⟨rfl, size_ok (Nat.le_trans hvl (by decide)), kp _ _ hC, hN.keeps kp, T.keeps kp, fun h' e mk => ⟨true, C', e, ρ, σ₁, rfl, ⟨s₂.heap, vs, R₁, mk⟩, hX e⟩⟩
  · cases is
    have hm2 := mg_none_of g.K g.top.g hno
    have := O.bound
    rw [hm2] at this
    cases this
end
theorem funFrames_of {h base : Heap} : ∀ {l : List Env}, (∀ env ∈ l, env.scope.kind ≠ .module ∧ ∃ L o, env.frame = some L ∧ h.get? L = some o ∧ (∀ vs, o.data ≠ .fields vs) ∧ base.get? L = none) → h.FunFrames base l
  | [], _ => trivial
  | env :: l, k => by
    obtain ⟨k1, L, o, k2, k3, k4, k5⟩ := k env (.head _)
    exact ⟨k1, ⟨L, o, k2, k5, k3, k4⟩, funFrames_of fun e he => k e (.tail _ he)⟩
theorem leave_call {c : Cx} {n : Nat} {f : Fm} {fr : Nat → Option Obj} {ρ ρ' : Lo} {σ σ' : Hp} {z s s'' : Shared} {qual : Str} {scope : Scope} {fa : Nat} {cd : Value} {ps : List Str} (g : Good c (n + 1) f fr) (R : c.Rel f ρ σ fr z s) (hs : scopeOk scope ps = true) {b : Bool} {C e : Nat}
    (x : XRel c b (newFm f qual scope s.heap.objs.size fa cd) ρ' σ' (restOf σ s) z s'' C e) {P : Unit → Shared → Prop} {E : Value → Shared → Prop} (hP : ∀ s3, XRel c false f ρ σ' fr z s3 C e → P () s3) :
    wpAny c.M (f.A.deeper (envOfC qual scope s.heap.objs.size fa cd)) (leaving (envOfC qual scope s.heap.objs.size fa cd) (.ref e)) P E s'' := by
  have G' := newFm_good g R (qual := qual) (fa := fa) (cd := cd) hs
  have key : ∀ {h : Heap}, c.Rel (newFm f qual scope s.heap.objs.size fa cd) ρ' σ' (restOf σ s) z { s'' with heap := h } → ∀ s3 : Shared, s3.gens = s''.gens → s3.drawn = s''.drawn → s3.os = s''.os → c.Rel f ρ σ' fr z { s3 with heap := h.hide s.heap.objs.size } := fun {h} R'' s3 e1 e2 e3 => by
    have R2 : c.Rel f ρ σ' fr z { s'' with heap := h } := R.back (f' := newFm f qual scope s.heap.objs.size fa cd) g rfl rfl R''
    have al : Alien f σ' fr s.heap.objs.size := R.alienAt (Nat.le_refl _) fun q => (R''.apart _ q).2.1 rfl
    have hn : ∀ t mo, σ' s.heap.objs.size ≠ some (t, mo) := fun t mo q => R''.neL q rfl
    have R3 := R2.alien al (h' := h.hide s.heap.objs.size) (tk := s3.toks) hn fun a o ne ho => (Heap.hide_ne h ne).trans ho
    have e4 : ({ s3 with heap := h.hide s.heap.objs.size } : Shared) = { s'' with heap := h.hide s.heap.objs.size, toks := s3.toks } := by
      cases s3; cases s''; simp at e1 e2 e3 ⊢; exact ⟨e1, e2, e3⟩
    rw [e4]; exact R3
  have hfr : (f.A.deeper (envOfC qual scope s.heap.objs.size fa cd)).frames = some (envOfC qual scope s.heap.objs.size fa cd :: f.top :: f.outer) := G'.frames
  cases b with
  | true =>
    obtain ⟨h, vs, R'', mk⟩ := x
    have fi := G'.frame_in R''
    have ff : h.FunFrames f.base (envOfC qual scope s.heap.objs.size fa cd :: f.top :: f.outer) := funFrames_of fun env he => by
      obtain ⟨k1, L, o, k2, k3, k4, k5⟩ := fi env he
      refine ⟨k1, L, o, k2, ?_, k4, k5⟩
      unfold restOf at k3
      split at k3
      · cases k3
      · exact k3
    refine leaveB_new (base := hideAll h (s.heap.objs.size :: frameAddrs (f.top :: f.outer))) hfr rfl (fun b o q => of_hideAll _ q) (funFrames_hide ff fun env he a ha => ?_) mk fun h' t x1 xB x2 x3 x4 => ?_
    · rcases List.mem_cons.mp he with rfl | he
      · cases ha; exact .head _
      · exact .tail _ (List.mem_filterMap.mpr ⟨env, he, ha⟩)
    · exact hP _ ⟨h.hide s.heap.objs.size, t, vs, key R'' _ rfl rfl rfl, x1, x3, x2, fun b o q => ((Heap.UpToSlots.of_keeps mk.keeps).trans x4) b o (Heap.of_hide q), xB⟩
  | false =>
    obtain ⟨h, t, vs, R'', x1, x2, x3, x4, xB⟩ := x
    refine leaveB_on hfr rfl x1 xB fun h' y1 yB y2 => ?_
    exact hP _ ⟨h.hide s.heap.objs.size, t, vs, key R'' _ rfl rfl rfl, y1, x2, x3.of_slots y2, fun b o q => (x4.trans y2) b o (Heap.of_hide q), yB⟩
theorem WFn.fnX {c : Cx} {n : Nat} {hn : Bool} {sc : Scope} {a : Nat} {ps : List Str} {body : List Stmt} {scope : Scope} (F : FnAt c a ps body scope) {as : List MV} {ρ : Lo} {Q : MV → Hp → Prop} {X : EX} {σ : Hp} (hl : as.length = ps.length)
    (h : WSs c ⟨n, hn, scope⟩ body (bindLo ps as fun _ => none) (fun m _ σ' => Q m.val σ') (fun _ C e _ σ' => X false C e σ') σ) : WFn c ⟨n + 1, hn, sc⟩ a as ρ Q X σ := fun us iu f fr z s hsc hh g R => by
  obtain ⟨⟨oc, od, osl, name, qual, params, dV, kV, doc, pm, an, cdv, ct, ho, hcd, hb⟩, hs⟩ := F
  obtain ⟨hk, hco, hgen, hps, hcl, hnd⟩ := scopeOk_of hs
  have hroom : f.A.depth < recursionLimit := by have := g.room; omega
  refine codeAny_call_function hroom (g.inK R _ _ ho) rfl hco hgen rfl (codeRec_of (g.inK R) hcd) ?_
  rw [hb us (by rw [← iu.length, hl])]
  refine wpAny_pure ?_
  refine wpAny_newFunctionEnv_cells hk (fun x hx => ?_) fun env' he s' x => ?_
  · have hx' := hps x.1 (List.of_mem_zip hx).1
    exact hx'.imp id fun q => ⟨q, cellsFrom_some _ _ _ (.inl q)⟩
  · subst he
    refine ⟨(g.at R).nolimit.keeps x.toInCall.keep, codeAny_func ?_⟩
    have G' := newFm_good g R (qual := qual) (fa := a) (cd := cdv) hs
    have R' := newFm_rel g R (qual := qual) (fa := a) (cd := cdv) hs iu x
    refine wuse6 (h (newFm f qual scope s.heap.objs.size a cdv) _ z s' rfl (fun q => hh q) G' R') (fun fl s'' m ρ' σ' is R'' q => ?_) fun ev s'' x => ?_
    · refine ⟨m.val, σ', ?_, R.back (f' := newFm f qual scope s.heap.objs.size a cdv) g rfl rfl R'', q⟩
      cases m with
      | ret v => obtain ⟨u, rfl, is⟩ := is; exact is
      | next => cases is; rfl
      | brk => cases is; rfl
      | cont => cases is; rfl
    · obtain ⟨b, C, e, ρ', σ', rfl, xr, hx⟩ := x
      exact leave_call g R hs xr fun s3 x3 => ⟨false, C, e, ρ, σ', rfl, x3, rfl, hx⟩
end Mine
open PySem PySem.W PyProof.Rows
namespace Mine
theorem Rel.landed {c : Cx} {n : Nat} {f : Fm} {fr : Nat → Option Obj} {ρ : Lo} {σ : Hp} {z s : Shared} {h h' : Heap} (g : Good c n f fr) (R : c.Rel f ρ σ fr z { s with heap := h })
    (B : ∀ b o, (hideAll h (frameAddrs (f.top :: f.outer))).get? b = some o → h'.get? b = some o) (U : h.UpToSlots h') (N : ∀ m, h.Ns f.L m → h'.Ns f.L m) : c.Rel f ρ σ fr z { s with heap := h' } := by
  have st : ∀ a, a ∉ frameAddrs (f.top :: f.outer) → ∀ o, h.get? a = some o → h'.get? a = some o := fun a ha o ho => B a o (hideAll_get _ ho ha)
  have own : ∀ a t mo, σ a = some (t, mo) → a ∉ frameAddrs (f.top :: f.outer) := fun a t mo e hm => by
    rcases g.slots a hm with q | q
    · exact R.neL e q
    · obtain ⟨o, ho⟩ := g.slotIn a q
      by_cases hk : mo.isK = true
      · cases mo <;> first | cases hk | skip
        have := R.kl a t _ _ e
        rw [g.apart a q] at this; cases this
      · have := (R.apart a (Foot.of_some e (by simpa using hk))).1
        rw [ho] at this; cases this
  have nf : ∀ a o, a ∈ frameAddrs (f.top :: f.outer) → fr a = some o → ∀ vs, o.data ≠ .fields vs := fun a o hm e => by
    obtain ⟨env, he, hf⟩ := List.mem_filterMap.mp hm
    rcases List.mem_cons.mp he with rfl | he
    · obtain ⟨L, hL, hc, _⟩ := g.topL
      rw [hL] at hf
      cases hf
      rcases hc with q | ⟨_, o', ho', hd⟩
      · have := R.frame.1; rw [q] at e; rw [this] at e; cases e
      · rw [ho'] at e; cases e; exact hd
    · obtain ⟨_, L, o', hf', _, ho', hd⟩ := g.outer env he
      rw [hf'] at hf
      cases hf
      rw [ho'] at e; cases e; exact hd
  exact {
    same := R.same
    keep := fun a o e => by
      obtain ⟨sl, e1, e2⟩ := R.keep a o e
      by_cases hm : a ∈ frameAddrs (f.top :: f.outer)
      · rcases g.slots a hm with q | q
        · have := R.frame.1; rw [q] at e; rw [this] at e; cases e
        · obtain ⟨sl', e3⟩ := U a _ e1 (nf a o hm e)
          exact ⟨sl', e3, fun q' => absurd q q'⟩
      · exact ⟨sl, st a hm _ e1, e2⟩
    objs := fun a t mo e => (R.objs a t mo e).of_same (fun o ho => st a (own a t mo e) o ho) fun d o hi ha ho => by
      refine st d (fun hm => ?_) o ho
      subst ha
      cases mo <;> first | cases hi | skip
      have hf := R.apart d (.inr ⟨_, _, _, e⟩)
      rcases g.slots d hm with q | q
      · exact hf.2.1 q
      · obtain ⟨o', ho'⟩ := g.slotIn d q
        rw [hf.1] at ho'; cases ho'
    wf := R.wf
    apart := R.apart
    ns := by obtain ⟨m, hn, q⟩ := R.ns; exact ⟨m, N m hn, q⟩
    cel := fun x k hk => by
      obtain ⟨o, v, ho, r⟩ := R.cel x k hk
      refine ⟨o, v, st k (fun hm => ?_) o ho, r⟩
      have hf := R.frame.2 x k hk
      rcases g.slots k hm with q | q
      · exact hf.2 q
      · obtain ⟨o', ho'⟩ := g.slotIn k q
        rw [hf.1] at ho'; cases ho'
    frame := R.frame
    kl := R.kl }
end Mine
open PySem PySem.W PyProof.Rows
namespace Mine
theorem matches_own {M : Model} {A : Around} {E : Value → Shared → Prop} {s : Shared} {K : Frag} {e C D : Nat} {oe : Obj} {b : Bool} {Q : Bool → Shared → Prop} (X : K.In s.heap) (he : s.heap.get? e = some oe) (hc : oe.cls = .ref C)
    (h0 : (clsIn K D).isSome = true) (h1 : typeIn K (.ref D) = some (.type "type")) (h2 : subIn K (.ref D) (.type "BaseException") = some true) (h3 : subIn K (.ref C) (.ref D) = some b) (hq : Q b s) : wpAny M A (excMatches (.ref e) (.ref D)) Q E s := by
  have LT := looks_typeIn (M := M) X h1
  have LD := looks_subIn (M := M) X h2
  have LC := looks_subIn (M := M) X h3
  have LI : Looks M s.heap (isInstance (.ref D) (.type "tuple")) false := LT.andThen (Looks.of_pure tc_notTuple)
  have LY : Looks M s.heap (isType (.ref D)) true := by
    unfold clsIn at h0
    split at h0
    · rename_i c' d' cd' sl' ho
      intro A' Q' E' s' k q
      unfold isType loadHead
      exact wpAny_bind (wpAny_loadPart (k _ _ (X _ _ ho)) (wpAny_pure q))
    · cases h0
  have LE : Looks M s.heap (isExcClass (.ref D)) true := LY.andThen LD
  have Le : Looks M s.heap (typeOf (.ref e)) (.ref C) := hc ▸ (Looks.ld he).andThen .now
  unfold excMatches
  refine wpAny_bind (LI.here ?_)
  cases b <;> (repeat (first | (with_reducible refine LE.here ?_) | (with_reducible refine Le.here ?_) | (with_reducible refine LC.here ?_) | wp_step)) <;> exact hq
theorem noteFrame_home {env env' : Env} (h : env.frame = env'.frame) (e : Value) : noteFrame e env = noteFrame e env' := by
  unfold noteFrame PySem.frameOf; rw [h]
theorem funFrames_at {h base : Heap} {l : List Env} (H : h.FunFrames base l) : ∀ env ∈ l, ∃ L o, env.frame = some L ∧ h.get? L = some o ∧ ∀ vs, o.data ≠ .fields vs := by
  induction l with
  | nil => intro e he; cases he
  | cons env l ih =>
    intro e he
    obtain ⟨_, ⟨L, o, k2, _, k3, k4⟩, r⟩ := H
    rcases List.mem_cons.mp he with rfl | he
    · exact ⟨L, o, k2, k3, k4⟩
    · exact ih r e he
theorem fly_none {h h' : Heap} {l : List Env} {e : Nat} {cls a0 : Value} (fl : Heap.FlyingW (hideAll h (frameAddrs l)) l e cls a0 h') : h.get? e = none := by
  cases q : h.get? e with
  | none => rfl
  | some o =>
    by_cases hm : e ∈ frameAddrs l
    · obtain ⟨env, he, hf⟩ := List.mem_filterMap.mp hm
      obtain ⟨L, o', h1, h2, h3⟩ := funFrames_at fl.2.2.1 env he
      obtain ⟨oe, ws, hoe, hoec, hoed, hoe0⟩ := fl.first
      rw [h1] at hf
      cases hf
      rw [hoe] at h2
      cases h2
      exact absurd hoed (h3 _)
    · have := hideAll_get _ q hm
      rw [fl.2.1] at this
      cases this
section
variable {c : Cx} {n : Nat} {f : Fm} {fr : Nat → Option Obj} {ρ : Lo} {σ : Hp} {z s : Shared} {C e : Nat}
theorem XRel.rel (g : Good c n f fr) (x : XRel c false f ρ σ fr z s C e) : c.Rel f ρ σ fr z s := by
  obtain ⟨h, t, vs, R, fl, ht, tup, U, _⟩ := x
  exact R.landed g (h' := s.heap) fl.1 U fun m hn => U.ns hn
theorem XRel.exc (g : Good c n f fr) (x : XRel c false f ρ σ fr z s C e) (t : Nat) : c.Rel f ρ (σ.put e t (.exc C)) fr z s := by
  have R' := x.rel g
  obtain ⟨h, t', vs, R, fl, ht, tup, U, _⟩ := x
  have hn : h.get? e = none := fly_none fl
  obtain ⟨oe, ws, hoe, hoec, hoed, hoe0⟩ := fl.first
  exact {
    same := R'.same
    keep := R'.keep
    objs := fun a t1 mo q => by
      by_cases ha : a = e
      · subst ha; rw [Hp.put_self] at q; cases q; exact ⟨oe, hoe, hoec, by unfold notCls; rw [hoed]⟩
      · rw [Hp.put_ne _ _ _ ha] at q; exact R'.objs a t1 mo q
    wf := fun a t1 C' fs q => by
      by_cases ha : a + 1 = e
      · rw [ha, Hp.put_self] at q; cases q
      · rw [Hp.put_ne _ _ _ ha] at q
        by_cases hb : a = e
        · subst hb
          obtain ⟨o, ho⟩ := (R.objs _ t1 _ q).dict_there
          exact absurd (hn.symm.trans ho) nofun
        · rw [Hp.put_ne _ _ _ hb]; exact R'.wf a t1 C' fs q
    apart := fun a fa => by
      by_cases ha : a = e
      · subst ha
        refine ⟨?_, fun q => ?_, fun y k hk q => ?_⟩
        · cases q : fr a with
          | none => rfl
          | some o => obtain ⟨sl, ho, _⟩ := R.keep a o q; exact absurd (hn.symm.trans ho) nofun
        · obtain ⟨m, ⟨o, es, ep, ho, _⟩, _⟩ := R.ns
          rw [← q] at ho
          exact absurd (hn.symm.trans ho) nofun
        · obtain ⟨o, v, ho, _⟩ := R.cel y k hk
          rw [← q] at ho
          exact absurd (hn.symm.trans ho) nofun
      · refine R'.apart a ?_
        rcases fa with ⟨t1, mo, fa, fk⟩ | ⟨t1, C', fs, fa⟩
        · rw [Hp.put_ne _ _ _ ha] at fa; exact .of_some fa fk
        · by_cases hb : a + 1 = e
          · rw [hb, Hp.put_self] at fa; cases fa
          · rw [Hp.put_ne _ _ _ hb] at fa; exact .inr ⟨t1, C', fs, fa⟩
    ns := R'.ns
    cel := R'.cel
    frame := R'.frame
    kl := fun a t1 xs o q => by
      by_cases ha : a = e
      · subst ha; rw [Hp.put_self] at q; cases q
      · rw [Hp.put_ne _ _ _ ha] at q; exact R'.kl a t1 xs o q }
end
def Lo.del (ρ : Lo) (x : Str) : Lo := fun y => if y = x then none else ρ y
theorem Rel.delLocal {c : Cx} {f : Fm} {ρ : Lo} {σ : Hp} {fr : Nat → Option Obj} {z s : Shared} (R : c.Rel f ρ σ fr z s) {x : Str} {v : Option Value} {m : Str → Option Value} {h' : Heap} {tk : Nat}
    (hm : ∀ y, f.env.scope.names.lookup y = some .local → OptIs (ρ y) (m y)) (hn : h'.Ns f.env.locals (fun y => if y = x then v else m y)) (hs : Heap.SameBut f.env.locals s.heap h')
    (hc : ∀ k, (x, k) ∉ f.env.cells) (hcl : ∀ y k, (y, k) ∈ f.env.cells → k ≠ f.env.locals) : c.Rel f (ρ.del x) σ fr z { s with heap := h', toks := tk } where
  same := R.same
  keep := fun a o e => let ⟨sl, e1, e2⟩ := R.keep a o e; ⟨sl, (hs.2 a fun q => by have := R.frame.1; rw [show f.L = a from q.symm, e] at this; cases this).trans e1, e2⟩
  objs := fun a t mo e => (R.objs a t mo e).of_same (fun o e' => (hs.2 a (R.neL e)).trans e') fun d o hi ed e' => (hs.2 d (by
    subst ed
    cases mo <;> first | cases hi | skip
    exact (R.apart d (.inr ⟨_, _, _, e⟩)).2.1)).trans e'
  wf := R.wf
  apart := R.apart
  ns := ⟨_, hn, fun y hy => by
    by_cases q : y = x
    · subst q; simp only [Lo.del, if_true]; exact trivial
    · simp only [Lo.del, if_neg q]; exact hm y hy⟩
  cel := fun y k hk => by
    obtain ⟨o, v', e, d, r⟩ := R.cel y k hk
    refine ⟨o, v', (hs.2 k (hcl y k hk)).trans e, d, ?_⟩
    have : y ≠ x := fun q => hc k (q ▸ hk)
    simp only [Lo.del, if_neg this]; exact r
  frame := R.frame
  kl := R.kl
def WH (c : Cx) (i : Ix) (hs : List ExceptHandler) (C e : Nat) (ρ : Lo) (Q : MF → Lo → Hp → Prop) (X : SX) (σ : Hp) : Prop :=
  ∀ f fr z s, f.env.scope = i.sc → (i.hn = true → f.A.handled = none) → Good c i.n f fr → XRel c false f ρ σ fr z s C e →
    wpAny c.M f.A (handleBy (.ref e) f.env hs) (fun fl s' => ∃ m ρ' σ', MF.Is m fl ∧ c.Rel f ρ' σ' fr z s' ∧ Q m ρ' σ') (XPost c f fr z X) s
section
variable {c : Cx} {i : Ix} {ρ : Lo} {σ : Hp} {X : SX} {Q : MF → Lo → Hp → Prop}
theorem WS.try {body : List Stmt} {h₀ : ExceptHandler} {hs : List ExceptHandler} {pos : Pos} (h : WSs c i body ρ Q (fun b C e ρ₁ σ₁ => b = false ∧ WH c i (h₀ :: hs) C e ρ₁ Q X σ₁) σ) : WS c i (.Try body (h₀ :: hs) [] [] pos) ρ Q X σ := fun f fr z s a b g R => by
  refine wpAny_Try_except (wpAny_mono (h f fr z s a b g R) (fun fl s₁ x => ?_) fun ev s₁ x => ?_)
  · obtain ⟨m, ρ', σ', is, R₁, q⟩ := x
    cases m with
    | next => cases is; exact wpAny_execs_nil ⟨.next, ρ', σ', rfl, R₁, q⟩
    | brk => cases is; exact ⟨.brk, ρ', σ', rfl, R₁, q⟩
    | cont => cases is; exact ⟨.cont, ρ', σ', rfl, R₁, q⟩
    | ret v => obtain ⟨u, rfl, is⟩ := is; exact ⟨.ret v, ρ', σ', ⟨u, rfl, is⟩, R₁, q⟩
  · obtain ⟨b', C, e, ρ', σ', rfl, xr, rfl, hw⟩ := x
    obtain ⟨h₁, t, vs, R₁, fl, ht, tup, U, B⟩ := xr
    obtain ⟨L, hL, _⟩ := g.topL
    rw [noteFrame_home g.home]
    refine noteB_on g.frames hL fl B fun h₄ held B₄ U₄ => ?_
    refine landB held B₄ fun h₅ fl₅ B₅ U₅ => ?_
    exact hw f fr z _ a b g ⟨h₁, t, vs, R₁, fl₅, ht, (tup.of_slots U₄).of_slots U₅, (U.trans U₄).trans U₅, B₅⟩
structure HandOk (c : Cx) (i : Ix) (x : Str) (D : Nat) : Prop where
  kind : i.sc.names.lookup x = some .globalImplicit
  glob : c.glob x = some (.ref D)
  cls : (clsIn c.K D).isSome = true
  typ : typeIn c.K (.ref D) = some (.type "type")
  exc : subIn c.K (.ref D) (.type "BaseException") = some true
theorem test_own {x : Str} {np pos : Pos} {C D e : Nat} {b : Bool} (ho : HandOk c i x D) (hsub : subIn c.K (.ref C) (.ref D) = some b) {f : Fm} {fr : Nat → Option Obj} {z s : Shared} {P : Result → Shared → Prop} (a : f.env.scope = i.sc) (g : Good c i.n f fr)
    (xr : XRel c false f ρ σ fr z s C e) (h : P (.ok (if b then .brk else .next)) s) : codeAny c.M (f.A.mark (some (.ref e))) (.handlers (.ref e) [.ExceptHandler (some (.Name x np)) none [] pos] f.env) P s := by
  have R := xr.rel g
  obtain ⟨h₁, t, vs, R₁, fl, ht, tup, U, _⟩ := xr
  obtain ⟨oe, ws, hoe, hoec, hoed, hoe0⟩ := fl.first
  refine codeAny_handlers_test ?_
  obtain ⟨hd, ⟨u, hu, is⟩ | ⟨hno, hn, u, hu, is⟩⟩ := g.ok.glob x _ ho.glob
  · cases is
    exact Calls.Name_function_global g.kind (kindAt a ho.kind) (Calls.loadGlobal_global (mg := c.mg) (v := .ref D) (by rw [g.globals]; exact (g.at R).g) (mg_of g.K g.top.g hu) (matches_own (K := c.K) (g.inK R) hoe hoec ho.cls ho.typ ho.exc hsub h)) hd
  · cases is
    exact Calls.Name_function_global g.kind (kindAt a ho.kind) (Calls.loadGlobal_builtin (mg := c.mg) (mb := c.mb) (v := .ref D) (by rw [g.globals]; exact (g.at R).g) (mg_none_of g.K g.top.g hno) (by rw [g.builtins]; exact (g.at R).b)
      ((g.top.builtins x hn).trans hu) (matches_own (K := c.K) (g.inK R) hoe hoec ho.cls ho.typ ho.exc hsub h)) hd
theorem Good.marked {n : Nat} {f : Fm} {fr : Nat → Option Obj} (g : Good c n f fr) {o : Option Value} : Good c n { f with A := f.A.mark o } fr := by
  exact {
      ok := g.ok, base := g.base, apart := g.apart, K := g.K, top := g.top, kind := g.kind, globals := g.globals, celled := g.celled, cellk := g.cellk, cellnd := g.cellnd, builtins := g.builtins
      room := g.room, units := g.units, frames := g.frames, topk := g.topk, low := g.low, slots := g.slots, topL := g.topL, slotIn := g.slotIn, home := g.home, outer := g.outer }
theorem WH.hitAs {x y : Str} {np : Pos} {b₀ : Stmt} {suite : List Stmt} {pos : Pos} {rest : List ExceptHandler} {C D e : Nat} (t : Nat) (ho : HandOk c i x D) (hsub : subIn c.K (.ref C) (.ref D) = some true) (hl : i.sc.names.lookup y = some .local)
    (h : σ e = none → WSs c ⟨i.n, false, i.sc⟩ (b₀ :: suite) (ρ.put y (.ref e)) (fun m ρ' σ' => Q m (ρ'.del y) σ') noSX (σ.put e t (.exc C))) :
    WH c i (.ExceptHandler (some (.Name x np)) (some y) (b₀ :: suite) pos :: rest) C e ρ Q X σ := fun f fr z s a b g xr => by
  refine wpAny_handleBy_cons (test_own ho hsub a g xr ?_) (by intro q; cases q)
  obtain ⟨h₁, t', vs, R₁, fl, ht, tup, U, B⟩ := xr
  show codeAny _ _ _ _ _
  refine codeAny_handlers_suite_as (landB_again fl B fun h₆ fl₆ B₆ U₆ => ?_)
  have xr₆ : XRel c false f ρ σ fr z { s with heap := h₆ } C e := ⟨h₁, t', vs, R₁, fl₆, ht, tup.of_slots U₆, U.trans U₆, B₆⟩
  have fresh : σ e = none := by
    cases q : σ e with
    | none => rfl
    | some p => obtain ⟨t1, mo⟩ := p; obtain ⟨o, ho⟩ := (R₁.objs e t1 mo q).there; exact absurd ((fly_none fl).symm.trans ho) nofun
  have hW : WSt c ⟨i.n, false, i.sc⟩ y (.ref e) ρ (fun ρ₁ σ₁ => WSs c ⟨i.n, false, i.sc⟩ (b₀ :: suite) ρ₁ (fun m ρ' σ' => Q m (ρ'.del y) σ') noSX σ₁) noSX (σ.put e t (.exc C)) := WSt.local hl (h fresh)
  refine wuse4 (hW (.ref e) rfl { f with A := f.A.mark (some (.ref e)) } fr z _ a (fun q => by cases q) g.marked (xr₆.exc g t).withA) (fun _ s₂ ρ₂ σ₂ R₂ h₂ => ?_) fun _ _ x => noSX_elim x
  refine wpAny_mono (h₂ { f with A := f.A.mark (some (.ref e)) } fr z _ a (fun q => by cases q) g.marked R₂) (fun fl s₃ x => ?_) fun _ _ x => noSX_elim x
  obtain ⟨m, ρ', σ', is, R₇, q⟩ := x
  have R₈ : c.Rel f ρ' σ' fr z s₃ := R₇.ofA
  obtain ⟨mm, hn, hm⟩ := R₈.ns
  refine wpAny_nameGoes_keeps (kindAt a hl) hn ?_ fun h' v hn' hs' => ⟨m, ρ'.del y, σ', is, R₈.delLocal hm hn' hs' (fun k hk => g.cellk y k hk (kindAt a hl)) (fun y k hk => g.cellnd.2.2 y k hk), q⟩
  rw [g.kind]; rfl
end
section
variable {c : Cx} {n : Nat} {hn : Bool} {sc : Scope} {ρ : Lo} {σ : Hp} {X : SX} {Q : MF → Lo → Hp → Prop}
theorem WH.hitAsA {x y : Str} {np : Pos} {b₀ : Stmt} {suite : List Stmt} {pos : Pos} {rest : List ExceptHandler} {C D e : Nat} (t : Nat) (ho : HandOk c ⟨n, hn, sc⟩ x D) (hsub : subIn c.K (.ref C) (.ref D) = some true) (hl : sc.names.lookup y = some .local)
    (h : σ e = none → WSs c ⟨n, false, sc⟩ (b₀ :: suite) (ρ.put y (.ref e)) (fun m ρ' σ' => Q m (ρ'.del y) σ') noSX (σ.put e t (.exc C))) :
    WH c ⟨n, hn, sc⟩ (.ExceptHandler (some (.Name x np)) (some y) (b₀ :: suite) pos :: rest) C e ρ Q X σ := WH.hitAs t ho hsub hl h
end
section
variable {c : Cx} {n : Nat} {hn : Bool} {sc : Scope} {a : Nat} {body : List Stmt} {scope : Scope} {ρ : Lo} {Q : MV → Hp → Prop} {X : EX} {σ : Hp} {p1 p2 p3 p4 : Str} {a1 a2 a3 a4 : MV}
theorem WFn.fn1X (F : FnAt c a [p1] body scope) (h : WSs c ⟨n, hn, scope⟩ body (ρ0.put p1 a1) (fun m _ σ' => Q m.val σ') (fun _ C e _ σ' => X false C e σ') σ) : WFn c ⟨n + 1, hn, sc⟩ a [a1] ρ Q X σ := WFn.fnX F rfl h
theorem WFn.fn2X (F : FnAt c a [p1, p2] body scope) (h : WSs c ⟨n, hn, scope⟩ body ((ρ0.put p1 a1).put p2 a2) (fun m _ σ' => Q m.val σ') (fun _ C e _ σ' => X false C e σ') σ) : WFn c ⟨n + 1, hn, sc⟩ a [a1, a2] ρ Q X σ := WFn.fnX F rfl h
theorem WFn.fn3X (F : FnAt c a [p1, p2, p3] body scope) (h : WSs c ⟨n, hn, scope⟩ body (((ρ0.put p1 a1).put p2 a2).put p3 a3) (fun m _ σ' => Q m.val σ') (fun _ C e _ σ' => X false C e σ') σ) : WFn c ⟨n + 1, hn, sc⟩ a [a1, a2, a3] ρ Q X σ := WFn.fnX F rfl h
theorem WFn.fn4X (F : FnAt c a [p1, p2, p3, p4] body scope) (h : WSs c ⟨n, hn, scope⟩ body ((((ρ0.put p1 a1).put p2 a2).put p3 a3).put p4 a4) (fun m _ σ' => Q m.val σ') (fun _ C e _ σ' => X false C e σ') σ) : WFn c ⟨n + 1, hn, sc⟩ a [a1, a2, a3, a4] ρ Q X σ := WFn.fnX F rfl h
end
end Mine
open PySem PySem.W PyProof.Rows
namespace Mine
section
variable {prog : Program} {w : World} {A : Around} {E : Value → Shared → Prop} {s : Shared} {Q : Value → Shared → Prop} {K : Frag} {x C : Nat} {o : Obj} {c : Value}
end
section
variable {c : Cx} {i : Ix} {ρ : Lo} {σ : Hp} {X : EX} {Q : MV → Hp → Prop}
theorem WB.pow {m n : Int} (h0 : 0 ≤ n) (h1 : n ≤ 1000000) (h2 : m.natAbs < 2 ^ 64) (h : Q (.int (m ^ n.toNat)) σ) : WB c i .Pow (.int m) (.int n) ρ Q X σ := fun v u iv iu f fr z s _ _ g R => by
  obtain ⟨t, rfl⟩ := iv; obtain ⟨t', rfl⟩ := iu
  exact pow_int_small h0 h1 h2 ⟨.int (m ^ n.toNat), σ, ⟨_, rfl⟩, R.toks _, h⟩
theorem WB.addL {a b : Nat} {xs ys : List MV} (t : Nat) (ha : ListAt σ a xs) (hb : ListAt σ b ys) (hz : xs.length + ys.length ≤ 1000000) (h : ∀ B, Fresh σ B → Q (.ref B) (σ.put B t (.list (xs ++ ys)))) : WB c i .Add (.ref a) (.ref b) ρ Q X σ := fun v u iv iu f fr z s _ _ g R => by
  cases iv; cases iu
  obtain ⟨its, hi, r⟩ := R.isList ha
  obtain ⟨its2, hi2, r2⟩ := R.isList hb
  obtain ⟨m, hn, hm⟩ := R.ns
  have e1 : its.size = xs.length := by rw [r.length]; simp
  have e2 : its2.size = ys.length := by rw [r2.length]; simp
  refine add_arrays (hsz := size_ok (by rw [e1, e2]; exact hz)) (fr_all hn) (news_all s.heap f.env.locals) hi hi2 fun h' F' N' => ?_
  have K' : Kept f.L (fun _ => False) s.heap h' := Kept.of_news hn F' N' fun p hp _ => .tail _ hp
  exact ⟨.ref s.heap.objs.size, _, rfl, R.alloc (mo := .list (xs ++ ys)) (tk := s.toks) t K' (Nat.le_refl _) (fun q => by cases q) ⟨_, 0, (N' (s.heap.objs.size, _) (.head _)).1, by simpa using r.append r2⟩, h _ R.fresh⟩
theorem WE.sliceTo {nm np hi p pos} (t : Nat) (h : WE c i (.Name nm np) ρ (fun a σ₁ => WE c i hi ρ (fun b σ₂ => ∃ l xs, ∃ k : Nat, a = .ref l ∧ b = .int k ∧ ListAt σ₂ l xs ∧ xs.length ≤ 1000000 ∧
    ∀ B, Fresh σ₂ B → Q (.ref B) (σ₂.put B t (.list (xs.take k)))) X σ₁) X σ) : WE c i (.Subscript (.Name nm np) (.Slice Option.none (some hi) Option.none p) pos) ρ Q X σ := fun f fr z s a b g R => by
  refine wpAny_Subscript_list_slice (wuse (h f fr z s a b g R) (fun v s₁ _ σ₁ i1 R₁ h₁ => wpAny_evalPart_none (wpAny_evalPart_some (wpAny_mono (h₁ f fr z s₁ a b g R₁) (fun u s₂ ⟨_, σ₂, i2, R₂, l, xs, k, e1, e2, hl, hz, h₂⟩ => ?_) fun _ _ x => x))) fun _ _ x => x)
  subst e1; subst e2
  cases i1; obtain ⟨tk, rfl⟩ := i2
  obtain ⟨its, hi', r⟩ := R₂.isList hl
  have e : its.size = xs.length := by rw [r.length]; simp
  refine ⟨l, its, Option.none, some (k : Int), rfl, hi', size_ok (by rw [e]; exact hz), .none, .int _ _, ?_⟩
  rw [slicePick_upto']
  have kp : ∀ b o, s₂.heap.get? b = some o → ((s₂.heap.push { cls := .type "slice", data := .fields #[.none, .int (k : Int) tk, .none] }).push { cls := .type "list", data := .seq (its.toList.take k).toArray }).get? b = some o :=
    fun b o e => Heap.get?_push_of_some _ (Heap.get?_push_of_some _ e)
  have hD : ((s₂.heap.push { cls := .type "slice", data := .fields #[.none, .int (k : Int) tk, .none] }).push { cls := .type "list", data := .seq (its.toList.take k).toArray }).get? (s₂.heap.objs.size + 1) = some (listOf (its.toList.take k).toArray 0) := by
    have e1 := Heap.get?_push_size (s₂.heap.push { cls := .type "slice", data := .fields #[.none, .int (k : Int) tk, .none] }) (o := { cls := .type "list", data := .seq (its.toList.take k).toArray }) rfl
    rw [Heap.size_push] at e1
    exact e1
  refine ⟨.ref (s₂.heap.objs.size + 1), _, rfl, R₂.alloc (mo := .list (xs.take k)) (tk := s₂.toks) t (.of_grown kp) (Nat.le_succ _) (fun q => by cases q) ⟨_, _, hD, ?_⟩, h₂ _ fun a p e => Nat.lt_succ_of_lt (R₂.some_lt e)⟩
  simpa using all2_take k r
end
end Mine
open PySem PySem.W PyProof.Rows
namespace Mine
def EqV (c : Cx) (σ : Hp) (k : Nat) (x y : MV) (b : Bool) : Prop := ∀ f ρ fr z s A v u, c.Rel f ρ σ fr z s → x.Is v → y.Is u → A.units + k < cLine → SeqAt.EqAt A s v u b
def RcV (c : Cx) (σ : Hp) (k : Nat) (x y : MV) (b : Bool) : Prop := ∀ f ρ fr z s A v u, c.Rel f ρ σ fr z s → x.Is v → y.Is u → A.units + k < cLine → SeqAt.RcAt A s v u b
def RnV (c : Cx) (σ : Hp) (k : Nat) (x y : MV) (b : Bool) : Prop := ∀ f ρ fr z s A v u, c.Rel f ρ σ fr z s → x.Is v → y.Is u → A.units + k < cLine → SeqAt.RcNeAt A s v u b
abbrev EqVs (c : Cx) (σ : Hp) (k : Nat) (xs ys : List MV) : Prop := All2 (fun x y => EqV c σ k x y true) xs ys
section
variable {c : Cx} {i : Ix} {ρ : Lo} {σ : Hp} {k : Nat}
theorem EqV.str {m n : Str} : EqV c σ k (.str m) (.str n) (m == n) := fun f ρ fr z s A v u R iv iu hu => by obtain ⟨t, rfl⟩ := iv; obtain ⟨t', rfl⟩ := iu; exact .str_str _ _ _ _
theorem EqV.strT {m n : Str} (h : m = n) : EqV c σ k (.str m) (.str n) true := by have := @EqV.str c σ k m n; rwa [beq_iff_eq.mpr h] at this
theorem eqs_at {f : Fm} {fr : Nat → Option Obj} {z s : Shared} {A : Around} {xs ys : List MV} (h : EqVs c σ k xs ys) (R : c.Rel f ρ σ fr z s) (hu : A.units + k < cLine) : ∀ {l m : List Value}, All2 MV.Is xs l → All2 MV.Is ys m → ∀ (j : Nat) (v u : Value), l[j]? = some v → m[j]? = some u → SeqAt.EqAt A s v u true := by
  induction h with
  | nil => intro l m h1 h2 j v u e; cases h1; simp at e
  | cons r _ ih =>
    intro l m h1 h2 j v u e1 e2
    cases h1 with | cons a1 b1 =>
    cases h2 with | cons a2 b2 =>
    cases j with
    | zero => simp at e1 e2; subst e1; subst e2; exact r _ _ _ _ _ _ _ _ R a1 a2 hu
    | succ j => simp at e1 e2; exact ih b1 b2 j v u e1 e2
theorem all_true (n : Nat) : (List.range n).all (fun _ => true) = true := by rw [List.all_eq_true]; exact fun _ _ => rfl
theorem RcV.listT {a b : Nat} {xs ys : List MV} (ha : ListAt σ a xs) (hb : ListAt σ b ys) (h : EqVs c σ k xs ys) : RcV c σ (k + 1) (.ref a) (.ref b) true := fun f ρ fr z s A v u R iv iu hu => by
  cases iv; cases iu
  obtain ⟨its, hi, r⟩ := R.isList ha
  obtain ⟨its2, hi2, r2⟩ := R.isList hb
  have hs : its.size = its2.size := by have := r.length; have := r2.length; have := h.length; simp at *; omega
  have := SeqAt.RcAt.lists (A := A) (e := fun _ => true) hi hi2 hs (by omega) fun j h1 h2 => eqs_at h R (by show A.units + 1 + k < cLine; omega) r r2 j _ _ (by simp [h1]) (by simp [h2])
  rwa [all_true] at this
theorem RcV.listF {a b : Nat} {xs ys : List MV} (ha : ListAt σ a xs) (hb : ListAt σ b ys) (h : xs.length ≠ ys.length) : RcV c σ 1 (.ref a) (.ref b) false := fun f ρ fr z s A v u R iv iu hu => by
  cases iv; cases iu
  obtain ⟨its, hi, r⟩ := R.isList ha
  obtain ⟨its2, hi2, r2⟩ := R.isList hb
  have hs : (its.size != its2.size) = true := by have := r.length; have := r2.length; simp at *; omega
  exact .lists_lengths hi hi2 hs (by omega)
theorem RnV.listT {a b : Nat} {xs ys : List MV} (ha : ListAt σ a xs) (hb : ListAt σ b ys) (h : EqVs c σ k xs ys) : RnV c σ (k + 1) (.ref a) (.ref b) false := fun f ρ fr z s A v u R iv iu hu => by
  cases iv; cases iu
  obtain ⟨its, hi, r⟩ := R.isList ha
  obtain ⟨its2, hi2, r2⟩ := R.isList hb
  have hs : its.size = its2.size := by have := r.length; have := r2.length; have := h.length; simp at *; omega
  have := SeqAt.RcNeAt.lists (A := A) (e := fun _ => true) hi hi2 hs (by omega) fun j h1 h2 => eqs_at h R (by show A.units + 1 + k < cLine; omega) r r2 j _ _ (by simp [h1]) (by simp [h2])
  rwa [all_true] at this
theorem RnV.listF {a b : Nat} {xs ys : List MV} (ha : ListAt σ a xs) (hb : ListAt σ b ys) (h : xs.length ≠ ys.length) : RnV c σ 1 (.ref a) (.ref b) true := fun f ρ fr z s A v u R iv iu hu => by
  cases iv; cases iu
  obtain ⟨its, hi, r⟩ := R.isList ha
  obtain ⟨its2, hi2, r2⟩ := R.isList hb
  have hs : (its.size != its2.size) = true := by have := r.length; have := r2.length; simp at *; omega
  exact .lists_lengths hi hi2 hs (by omega)
variable {X : EX} {Q : MV → Hp → Prop}
theorem WC.eq {x y : MV} {b : Bool} (hn : 1 ≤ i.n) (hk : k ≤ 39) (h : RcV c σ k x y b) (hq : Q (.bool b) σ) : WC c i .Eq x y ρ Q X σ := fun v u iv iu f fr z s _ _ g R =>
  cmp_ofEq (h f ρ fr z s f.A v u R iv iu (by have := g.units; omega) c.prog c.w _ _ ⟨.bool b, σ, rfl, R, hq⟩)
theorem WC.ne {x y : MV} {b : Bool} (hn : 1 ≤ i.n) (hk : k ≤ 39) (h : RnV c σ k x y b) (hq : Q (.bool b) σ) : WC c i .NotEq x y ρ Q X σ := fun v u iv iu f fr z s _ _ g R =>
  cmp_ofNotEq (h f ρ fr z s f.A v u R iv iu (by have := g.units; omega) c.prog c.w _ _ ⟨.bool b, σ, rfl, R, hq⟩)
end
theorem FnAt.unique {c : Cx} {a : Nat} {ps ps' : List Str} {b b' : List Stmt} {s s' : Scope} (F : FnAt c a ps b s) (F' : FnAt c a ps' b' s') : b = b' ∧ s = s' := by
  obtain ⟨oc, od, osl, name, qual, params, dV, kV, doc, pm, an, cdv, ct, e, _⟩ := F.at_
  obtain ⟨oc', od', osl', name', qual', params', dV', kV', doc', pm', an', cdv', ct', e', _⟩ := F'.at_
  have q := Option.some.inj (e.symm.trans e')
  have q2 : Data.func (fnX name qual params b s [] dV kV doc pm an cdv ct) = .func (fnX name' qual' params' b' s' [] dV' kV' doc' pm' an' cdv' ct') := congrArg Obj.data q
  have q3 := Data.func.inj q2
  exact ⟨FuncBody.stmts.inj (congrArg (·.body) q3), congrArg (·.scope) q3⟩
end Mine
open PySem PySem.W PyProof.Rows
namespace Mine
section
variable {c : Cx} {i : Ix} {ρ : Lo} {σ : Hp} {X : EX} {Q : MV → Hp → Prop}
theorem strs_at {ys : List Str} {vs : List Value} (r : All2 MV.Is (ys.map .str) vs) {m : Nat} {v : Value} (h : vs[m]? = some v) : ∃ y t, ys[m]? = some y ∧ v = .str y t := by
  induction ys generalizing vs m with
  | nil => cases r; simp at h
  | cons y ys ih =>
    cases r with | cons a b =>
    cases m with
    | zero => simp at h; subst h; obtain ⟨t, e⟩ := a; exact ⟨y, t, by simp, e⟩
    | succ m => simp at h; simpa using ih b h
end
theorem WComp.inv {c : Cx} {i : Ix} {x : Str} {elt : Expr} {still : Hp → Prop} {Q : List MV → Hp → Prop} {ρ : Lo} (P : Nat → List MV → Hp → Prop) : ∀ (items : List MV) (j : Nat) {acc : List MV} {σ : Hp}, P j acc σ →
    (∀ k v acc σ, items[k]? = some v → P (j + k) acc σ → still σ ∧ WE c i elt (ρ.put x v) (fun r σ' => P (j + k + 1) (acc ++ [r]) σ') noX σ) → (∀ acc σ, P (j + items.length) acc σ → still σ ∧ Q acc σ) → WComp c i x elt [] still Q ρ items acc σ
  | [], j, acc, σ, h0, _, he => he acc σ h0
  | v :: vs, j, acc, σ, h0, hs, he => by
    obtain ⟨h1, h2⟩ := hs 0 v acc σ rfl h0
    refine ⟨h1, ?_⟩
    refine (if_tt (A := WE c i elt (ρ.put x v) (fun u σ₂ => WComp c i x elt [] still Q ρ vs (acc ++ [u]) σ₂) noX σ) ?_ : ite _ _ (WComp c i x elt [] still Q ρ vs acc σ))
    refine W.mono h2 fun r σ' h3 => WComp.inv P vs (j + 1) h3 (fun k w acc' σ'' hk hp => ?_) fun acc' σ'' hp => he acc' σ'' ?_
    · have e : j + 1 + k = j + (k + 1) := by omega
      rw [e] at hp ⊢
      exact hs (k + 1) w acc' σ'' (by simpa using hk) hp
    · have e : j + (v :: vs).length = j + 1 + vs.length := by rw [List.length_cons]; omega
      rw [e]; exact hp
end Mine
open PySem PySem.W PyProof.Rows
namespace Mine
section
variable {c : Cx} {i : Ix} {ρ : Lo} {σ : Hp} {X : EX} {Q : MV → Hp → Prop}
end
section
variable {c : Cx} {n : Nat} {hn : Bool} {sc scope : Scope} {x : Str} {ρ : Lo} {σ : Hp}
theorem WE.compA {px : Pos} {elt iter : Expr} {ifs : List Expr} {pos : Pos} {X : EX} {Q : MV → Hp → Prop} (t : Nat) (hh : hn = true) (hs : NotSet iter) (hok : compOk scope sc x = true) (h0 : ρ (".0" : Str) = Option.none)
    (h : WE c ⟨n, hn, sc⟩ iter ρ (fun v σ₁ => ∃ xs still, Iterable σ₁ v xs still ∧ xs.length ≤ 1000000 ∧ WComp c ⟨n, hn, relab scope sc⟩ x elt ifs still (fun vs σ₂ => ∀ D, σ₂ D = Option.none → Q (.ref D) (σ₂.put D t (.list vs))) ρ xs [] σ₁) X σ) :
    WE c ⟨n, hn, sc⟩ (.ListComp elt [⟨.Name x px, iter, ifs, 0⟩] scope pos) ρ Q X σ := WE.comp t hh hs hok h0 h
theorem WS.assignCompA {y : Str} {py px : Pos} {elt iter : Expr} {ifs : List Expr} {pos spos : Pos} {X : SX} {Q : MF → Lo → Hp → Prop} (t : Nat) (hh : hn = true) (hs : NotSet iter) (hok : compOk scope sc x = true) (h0 : ρ (".0" : Str) = Option.none)
    (hy : sc.names.lookup y = some .local) (hline : (py.line == pos.line && !(scope.names.any fun (n, k) => n == y && (k == .local || k == .cell))) = true)
    (h : WE c ⟨n, hn, sc⟩ iter ρ (fun v σ₁ => ∃ xs still, Iterable σ₁ v xs still ∧ xs.length ≤ 1000000 ∧ WComp c ⟨n, hn, relab scope sc⟩ x elt ifs still (fun vs σ₂ => ∀ D, σ₂ D = Option.none → Q .next (ρ.put y (.ref D)) (σ₂.put D t (.list vs))) ρ xs [] σ₁) (X.ex ρ) σ) :
    WS c ⟨n, hn, sc⟩ (.Assign [.Name y py] (.ListComp elt [⟨.Name x px, iter, ifs, 0⟩] scope pos) spos) ρ Q X σ := WS.assignComp t hh hs hok h0 hy hline h
end
end Mine
open PySem PySem.W PyProof.Rows
namespace Mine
end Mine
open PySem PySem.W PyProof.Rows
namespace Mine
section
variable {prog : Program} {w : World} {A : Around} {E : Value → Shared → Prop} {K : Frag} {x C : Nat} {o : Obj}
theorem exc_check {M : Model} {nameV : Value} {Q : Unit → Shared → Prop} {h : Heap} {g : Array GenState} {d : Drawn} {t : Nat} {os : OsState} (X : K.In h) (hx : h.get? x = some o) (hc : o.cls = .ref C) (m2 : mroIn K C (.type "BaseException") = some true) (hq : Q () ⟨h, g, d, t, os⟩) :
    wpAny M A (checkBuiltinCall "BaseException.__getattribute__" ⟨[.ref x, nameV], []⟩) Q E ⟨h, g, d, t, os⟩ := by
  have hk : builtinKind "BaseException.__getattribute__" = some .slot := by decide +kernel
  have hsplit : splitId "BaseException.__getattribute__" = some ("BaseException", "__getattribute__") := by decide +kernel
  have ha := PySem.F.args_bexc_ga (.ref x) nameV
  have L0 : Looks M h (typeOf (.ref x)) (.ref C) := hc ▸ (Looks.ld hx).andThen .now
  have LI : Looks M h (isInstance (.ref x) (.type "BaseException")) true := L0.andThen (looks_mroIn X m2)
  simp only [checkBuiltinCall, hk, hsplit]
  refine wpAny_bind (LI.at ?_)
  repeat (any_goals (first | assumption | wp_step))
theorem exc_class_get {tp : Value} {R : Result → Shared → Prop} {h : Heap} {g : Array GenState} {d : Drawn} {t : Nat} {os : OsState} (X : K.In h) (hx : h.get? x = some o) (hc : o.cls = .ref C) (m1 : mroIn K C (.type "object") = some true) (hq : R (.ok (.ret (.ref C))) ⟨h, g, d, t, os⟩) :
    codeAny (model prog w) A (.call (.builtin "getset_descriptor.__get__") ⟨[.builtin "object.__class__", .ref x, tp], []⟩) R ⟨h, g, d, t, os⟩ := by
  have L0 : Looks (model prog w) h (typeOf (.ref x)) (.ref C) := hc ▸ (Looks.ld hx).andThen .now
  have L1 := looks_mroIn (M := model prog w) X m1
  have hT5 : (⟨h, g, d, t, os⟩ : Shared).TypeIs (.builtin "object.__class__") "getset_descriptor" := PySem.F.typeOf_object_class
  have ho := KF.owner_class
  refine codeAny_call_builtin PySem.F.slot_gs_get.plain PySem.F.entry_gs_get (PySem.F.slot_gs_get.check _ _ _ _ _ _ _ _ hT5 (PySem.F.args_gs_get _ _ _) ?_)
  unfold Builtin.«getset_descriptor.__get__» Builtin.Getset_descriptor.descrGet
  rw [dga_obj]
  refine wpAny_bind (wpAny_pure ?_)
  unfold Builtin.Getset_descriptor.descrGetter Builtin.Getset_descriptor.descrCheckInstance Builtin.Getset_descriptor.descrNameAndClass isInstance
  simp only [KF.owner_class]
  repeat (any_goals (first | assumption | (with_reducible refine L0.at ?_) | (with_reducible refine L1.at ?_) | wp_step))
  refine ⟨Code.quiet_builtin _ (by decide +kernel), codeAny_builtin PySem.F.entry_object_class ?_⟩
  unfold Builtin.«object.__class__» shownTypeOf
  repeat (any_goals (first | assumption | (with_reducible refine L0.at ?_) | wp_step))
theorem exc_class_by {tk : Tok} {fill expr : Bool} {Q : Value → Shared → Prop} {h : Heap} {g : Array GenState} {d : Drawn} {t : Nat} {os : OsState} (X : K.In h) (hx : h.get? x = some o) (hc : o.cls = .ref C) (f1 : findIn K (.ref C) "__getattribute__" = some (some (.builtin "BaseException.__getattribute__"))) (f2 : findIn K (.ref C) "__getattr__" = some none)
    (f3 : findIn K (.ref C) "__class__" = some (some (.builtin "object.__class__"))) (m1 : mroIn K C (.type "object") = some true) (m2 : mroIn K C (.type "BaseException") = some true) (hq : Q (.ref C) ⟨h, g, d, t, os⟩) :
    wpAny (model prog w) A (getAttrBy (.ref x) (.str "__class__" tk) fill expr) Q E ⟨h, g, d, t, os⟩ := by
  have L0 : Looks (model prog w) h (typeOf (.ref x)) (.ref C) := hc ▸ (Looks.ld hx).andThen .now
  have L1 := looks_findIn (M := model prog w) X f1
  have L2 := looks_findIn (M := model prog w) X f2
  have L3 := looks_findIn (M := model prog w) X f3
  have hb := PySem.F.attrBase_ValueError.ga.bind (.ref x)
  have hx0 : (expr && onTheHeap (Value.builtin "BaseException.__getattribute__")) = false := by cases expr <;> rfl
  have hx2 : (Value.builtin "BaseException.__getattribute__" == Value.builtin "object.__getattribute__") = false := by decide +kernel
  have hx1 : (onTheHeap (Value.ref C) && Value.builtin "BaseException.__getattribute__" == Value.builtin "object.__getattribute__") = false := by rw [hx2]; rfl
  repeat (any_goals (first | assumption | (with_reducible refine L0.at ?_) | (with_reducible refine L1.at ?_) | (with_reducible refine L2.at ?_) | (with_reducible refine L3.at ?_) | wp_step))
  refine codeAny_call_builtin PySem.F.attrBase_ValueError.ga.plain PySem.F.entry_bexc_ga (exc_check X hx hc m2 ?_)
  have f5 := PySem.F.typeOf_object_class
  have f6 := PySem.F.slot_gs_get.lookup
  have f7 := PySem.F.slot_gs_set.lookup
  repeat (any_goals (first | assumption | (with_reducible refine L0.at ?_) | (with_reducible refine L3.at ?_) | wp_step))
  refine exc_class_get X hx hc m1 ?_
  repeat (any_goals (first | assumption | wp_step))
theorem exc_class {Q : Option Value → Shared → Prop} {s : Shared} (X : K.In s.heap) (hx : s.heap.get? x = some o) (hc : o.cls = .ref C) (f1 : findIn K (.ref C) "__getattribute__" = some (some (.builtin "BaseException.__getattribute__"))) (f2 : findIn K (.ref C) "__getattr__" = some none)
    (f3 : findIn K (.ref C) "__class__" = some (some (.builtin "object.__class__"))) (m1 : mroIn K C (.type "object") = some true) (m2 : mroIn K C (.type "BaseException") = some true) (hq : Q (some (.ref C)) { s with toks := s.toks + 1 }) :
    wpAny (model prog w) A (getAttr? (.ref x) "__class__") Q E s := by
  obtain ⟨h, g, d, t, os⟩ := s
  unfold getAttr? getAttrBy?
  repeat (any_goals (first | assumption | with_reducible apply exc_class_by X hx hc f1 f2 f3 m1 m2 | wp_step))
structure ExcOk (K : Frag) (C : Nat) : Prop where
  cls : (clsIn K C).isSome = true
  f1 : findIn K (.ref C) "__getattribute__" = some (some (.builtin "BaseException.__getattribute__"))
  f2 : findIn K (.ref C) "__getattr__" = some none
  f3 : findIn K (.ref C) "__class__" = some (some (.builtin "object.__class__"))
  m1 : mroIn K C (.type "object") = some true
  m2 : mroIn K C (.type "BaseException") = some true
theorem kitx_exc (hc : o.cls = .ref C) (ok : ExcOk K C) : KitX K (.ref x) (.ref C) (fun h => h.get? x = some o) where
  ty := fun M h _ p => hc ▸ (Looks.ld p).andThen .now
  it := fun _ _ X _ => by
    have h0 := ok.cls
    unfold clsIn at h0
    split at h0
    · rename_i c' d' cd' sl' ho
      intro A' Q' E' s' k q
      unfold isType loadHead
      exact wpAny_bind (wpAny_loadPart (k _ _ (X _ _ ho)) (wpAny_pure q))
    · cases h0
  ne := fun h tp dd its n sl X htp => by
    have h0 := ok.cls
    refine Bool.eq_false_iff.mpr fun q => ?_
    have e : C = tp := Value.ref.inj (beq_iff_eq.mp q)
    subst e
    unfold clsIn at h0
    split at h0
    · rename_i c' d' cd' sl' ho
      have z := (X _ _ ho).symm.trans htp
      cases z
    · cases h0
  ca := fun X p k => exc_class X p hc ok.f1 ok.f2 ok.f3 ok.m1 ok.m2 k
end
section
variable {c : Cx} {i : Ix} {ρ : Lo} {σ : Hp} {X : EX} {Q : MV → Hp → Prop}
theorem WCall.isExc {e t C : Nat} {m : MV} {cv : Value} {b : Bool} (hm : σ e = some (t, .exc C)) (ok : ExcOk c.K C) (hv : ∀ u, m.Is u → u = cv) (k : kitOne c.K (.ref C) cv = some b) (h : Q (.bool b) σ) : WCall c i (.con (.builtin "isinstance")) [.ref e, m] ρ Q X σ := fun v us iv iu f fr z s _ _ g R => by
  cases iv
  obtain ⟨u1, u2, rfl, i1, i2⟩ := iu.two
  cases i1
  have := hv _ i2
  subst this
  obtain ⟨o, ho, hc, _⟩ := R.objs _ _ _ hm
  exact kia_one (kitx_exc hc ok) (g.inK R) ho k (by intro q; cases q) fun tk => ⟨.bool b, σ, rfl, R.toks _, h⟩
theorem isRef {a : Nat} : ∀ u, (MV.ref a).Is u → u = .ref a := fun u h => h
theorem isCon {v : Value} : ∀ u, (MV.con v).Is u → u = v := fun u h => h
theorem WComp.filter {x : Str} {elt t : Expr} {still : Hp → Prop} {Q : List MV → Hp → Prop} (hst : still σ) {p : MV → Bool} {f : MV → MV} : ∀ {items acc : List MV} (h : ∀ v ∈ items, ∀ K : Bool → Hp → Prop, K (p v) σ → WT c i t (ρ.put x v) K noX σ)
    (h' : ∀ v ∈ items, p v = true → ∀ K : MV → Hp → Prop, K (f v) σ → WE c i elt (ρ.put x v) K noX σ) (hq : Q (acc ++ (items.filter p).map f) σ), WComp c i x elt [t] still Q ρ items acc σ
  | [], acc, _, _, hq => ⟨hst, by simpa using hq⟩
  | v :: vs, acc, h, h', hq => by
    refine ⟨hst, ?_⟩
    refine h v (List.mem_cons_self ..) _ ?_
    have r : ∀ acc', Q (acc' ++ (vs.filter p).map f) σ → WComp c i x elt [t] still Q ρ vs acc' σ := fun acc' hq' => WComp.filter hst (fun u hu => h u (List.mem_cons_of_mem _ hu)) (fun u hu => h' u (List.mem_cons_of_mem _ hu)) hq'
    cases hp : p v with
    | true =>
      refine if_tt (h' v (List.mem_cons_self ..) hp _ (r _ ?_))
      rw [List.filter_cons, if_pos hp] at hq
      simpa using hq
    | false =>
      refine if_ff (r _ ?_)
      rw [List.filter_cons, if_neg (by rw [hp]; decide)] at hq
      exact hq
end
end Mine
open PySem PySem.W PyProof.Rows
namespace Mine
section
variable {c : Cx} {i : Ix} {ρ : Lo} {σ : Hp} {X : EX} {Q : MV → Hp → Prop}
theorem WSub.str {value slice : Expr} {x : Str} {k : Int} {ch : Nat} (hs : NoSlice slice) (h0 : 0 ≤ k) (h1 : k < 2 ^ 63) (hc : x.cps[k.toNat]? = some ch) (h : Q (.str ⟨#[ch]⟩) σ) : WSub c i value slice (.str x) (.int k) ρ Q X σ := fun v' u iv iu f fr z s _ _ g R => by
  obtain ⟨t, rfl⟩ := iv; obtain ⟨tk, rfl⟩ := iu
  have hlt : k.toNat < x.length := by
    have := (Array.getElem?_eq_some_iff.mp hc).1
    exact this
  refine tail_any (typeIs_str s x t) PySem.F.slot_str_getitem.lookup (PySem.P.getItem_str (c := ch) ?_ ?_ ⟨.str ⟨#[ch]⟩, σ, ⟨_, rfl⟩, R.toks _, h⟩) (hs _ _)
  · simp; omega
  · have e : seqIndex? k x.length = some k.toNat := by unfold seqIndex?; simp; omega
    rw [e]; exact hc
theorem WE.sliceToS {value hi : Expr} {p pos : Pos} {x : Str} (ht : ∀ t r, letTemporaryGo value (.str x t) r = pure ()) (hz : x.length ≤ 1000000) (h : WE c i value ρ (fun a σ₁ => WE c i hi ρ (fun b σ₂ => ∃ k : Int, a = .str x ∧ b = .int k ∧ Q (.str (Txt.slice x Option.none (some k))) σ₂) X σ₁) X σ) :
    WE c i (.Subscript value (.Slice Option.none (some hi) Option.none p) pos) ρ Q X σ := fun f fr z s a b g R => by
  refine Subscript_ (wuse (h f fr z s a b g R) (fun v s₁ _ σ₁ i1 R₁ h₁ => wpAny_Slice (wpAny_evalPart_none (wpAny_evalPart_some (wpAny_mono (h₁ f fr z s₁ a b g R₁) (fun u s₂ ⟨_, σ₂, i2, R₂, k, e1, e2, h₂⟩ => ?_) fun _ _ x => x)))) fun _ _ x => x)
  subst e1; subst e2
  obtain ⟨t, rfl⟩ := i1; obtain ⟨tk, rfl⟩ := i2
  obtain ⟨m, hn, hm⟩ := R₂.ns
  refine wpAny_evalPart_none ?_
  exact slice_strN_ns (hsz := size_ok hz) (s := s₂) (fr_all hn) (news_all s₂.heap f.env.locals) (fun h' t' k' F' N' => ⟨.str _, σ₂, ⟨_, rfl⟩, R₂.kept (Kept.of_news hn F' N' fun p hp _ => hp), h₂⟩) (by with_unfolding_all rfl) (ht _)
end
end Mine
open PySem PySem.W PyProof.Rows
namespace Mine
section
variable {c : Cx} {i : Ix} {ρ : Lo} {σ : Hp} {X : EX} {Q : MV → Hp → Prop}
end
end Mine
open PySem PySem.W PyProof.Rows
set_option maxRecDepth 100000
namespace Mine
open PySem.SeqAt PySem.MeetsSeq in
open PySem.SeqAt PySem.MeetsSeq in
section
variable {c : Cx} {i : Ix} {ρ : Lo} {σ : Hp} {X : EX} {Q : MV → Hp → Prop} {k : Nat}
theorem WSub.listNeg {value slice : Expr} {a : Nat} {k : Int} {xs : List MV} {v : MV} (hs : NoSlice slice) (hl : ListAt σ a xs) (h0 : k < 0) (h1 : -(xs.length : Int) ≤ k) (h2 : -(2 ^ 63) ≤ k) (hx : xs[(k + xs.length).toNat]? = some v) (h : Q v σ) : WSub c i value slice (.ref a) (.int k) ρ Q X σ := fun v' u iv iu f fr z s _ _ g R => by
  cases iv; obtain ⟨t, rfl⟩ := iu
  obtain ⟨its, hi, r⟩ := R.isList hl
  have e : its.size = xs.length := by rw [r.length]; simp
  obtain ⟨x, hx', is⟩ := r.get hx
  exact tail_any hi.typeIs slot_list_getitem.lookup (wpAny_getItem_list_neg hi h0 (by rw [e]; exact h1) h2 (by rw [e]; simpa using hx') ⟨v, σ, is, R, h⟩) (hs _ _)
end
end Mine
open PySem PySem.W PyProof.Rows
set_option maxRecDepth 100000
namespace Mine
section
variable {c : Cx} {i : Ix} {ρ : Lo} {σ : Hp} {X : EX} {Q : MV → Hp → Prop} {k : Nat}
theorem WCall.lenStr {x : Str} (hz : x.length ≤ 1000000) (h : Q (.int x.length) σ) : WCall c i (.con (.builtin "len")) [.str x] ρ Q X σ := fun v us iv iu f fr z s _ _ g R => by
  cases iv
  obtain ⟨u, rfl, t, rfl⟩ := iu.one
  exact len_str (by omega) ⟨.int x.length, σ, ⟨_, rfl⟩, R.toks _, h⟩
theorem WC.inText {x y : Str} (h : Q (.bool !(Builtin.Str.occurrences x y 0 x.length 1).isEmpty) σ) : WC c i .In (.str y) (.str x) ρ Q X σ := fun v u iv iu f fr z s _ _ g R => by
  obtain ⟨t, rfl⟩ := iv; obtain ⟨t', rfl⟩ := iu
  exact in_str ⟨.bool _, σ, rfl, R, h⟩
theorem WM.join {x : Str} {Q : MV × List MV → Hp → Prop} (h : Q (.con (.builtin "str.join"), [.str x]) σ) : WM c i (.str x) "join" ρ Q X σ := fun v pl iv f fr z s _ _ g R => by
  obtain ⟨t, rfl⟩ := iv
  exact GM.join ⟨(.con (.builtin "str.join"), [.str x]), σ, ⟨rfl, .cons ⟨_, rfl⟩ .nil⟩, R, h⟩
theorem strsAre_of {ys : List Str} {vs : List Value} (r : All2 MV.Is (ys.map .str) vs) : StrsAre vs ys := by
  induction ys generalizing vs with
  | nil => cases r; exact .nil
  | cons y ys ih => cases r with | cons a b => obtain ⟨t, rfl⟩ := a; exact .cons y t (ih b)
theorem WCall.join {x : Str} {a : Nat} {ys : List Str} (hl : ListAt σ a (ys.map .str)) (hok : (ys.map (·.length)).sum + ys.length * x.length ≤ 16777216) (h : Q (.str (Txt.join x ys)) σ) : WCall c i (.con (.builtin "str.join")) [.str x, .ref a] ρ Q X σ := fun v us iv iu f fr z s _ _ g R => by
  cases iv
  obtain ⟨u1, u2, rfl, ⟨t, rfl⟩, i2⟩ := iu.two
  cases i2
  obtain ⟨its, hi, r⟩ := R.isList hl
  exact join_list hi (strsAre_of r) hok fun t' k => ⟨.str _, σ, ⟨_, rfl⟩, R.toks _, h⟩
theorem all2_swap {α β : Type} {R : α → β → Prop} {l : List α} {m : List β} (h : All2 R l m) : All2 (fun b a => R a b) m l := by
  induction h with
  | nil => exact .nil
  | cons r _ ih => exact .cons r ih
theorem range_all (bs : List Bool) : (List.range bs.length).all (fun j => bs.getD j true) = bs.all id := by
  rw [Bool.eq_iff_iff, List.all_eq_true, List.all_eq_true]
  constructor
  · intro h b hb
    obtain ⟨j, hj⟩ := List.mem_iff_getElem?.mp hb
    have := h j (List.mem_range.mpr (List.getElem?_eq_some_iff.mp hj).1)
    rw [List.getD, hj] at this
    exact this
  · intro h j hj
    have hlt := List.mem_range.mp hj
    rw [List.getD, List.getElem?_eq_getElem hlt]
    exact h _ (List.getElem_mem hlt)
theorem WCall.all {a : Nat} {bs : List Bool} (hn : i.hn = true) (hl : ListAt σ a (bs.map .bool)) (h : Q (.bool (bs.all id)) σ) : WCall c i (.con (.builtin "all")) [.ref a] ρ Q X σ := fun v us iv iu f fr z s _ hh g R => by
  cases iv
  obtain ⟨u, rfl, i1⟩ := iu.one
  cases i1
  obtain ⟨its, hi, r⟩ := R.isList hl
  have hlt : a < s.heap.objs.size := by obtain ⟨o, ho, _⟩ := hi; exact Heap.lt_size ho
  have e : its.size = bs.length := by have := r.length; simp at this; omega
  refine call_all_walk (wpAny_pyIter_list hi ⟨s.heap.objs.size, _, _, its.size, _, _, fun j => bs.getD j true, rfl, Walks.list (A := f.A.in1) (show f.A.in1.handled = none from hh hn) _ a (Nat.ne_of_lt hlt) its, ⟨⟨_, Heap.get?_push_size _ rfl, rfl, rfl⟩, hi.push _⟩, ?_, fun h' tk k => ⟨.bool (bs.all id), σ, ?_, R.grown (tk := tk) fun b o eb => k b o (fun q => ?_) (Heap.get?_push_of_some _ eb), h⟩⟩)
  · intro j v s' Q' E' hv hq
    obtain ⟨b, hb, is⟩ := (all2_swap r).get (by simpa using hv)
    rw [List.getElem?_map] at hb
    obtain ⟨b', hb', rfl⟩ := Option.map_eq_some_iff.mp hb
    have : v = .bool b' := is
    subst this
    refine wpAny_truthy_bool ?_
    have e2 : bs.getD j true = b' := by rw [List.getD, hb']; rfl
    have hq' : Q' (bs.getD j true) s' := hq
    rwa [e2] at hq'
  · show Value.bool _ = _
    rw [e, range_all]
  · rw [List.mem_singleton] at q
    subst q
    exact absurd (Heap.lt_size eb) (Nat.lt_irrefl _)
end
end Mine
open PySem PySem.W PyProof.Rows
set_option maxRecDepth 100000
namespace Mine
section
variable {c : Cx} {i : Ix} {ρ : Lo} {σ : Hp} {X : EX} {Q : MV → Hp → Prop} {k : Nat}
theorem WE.dict1 {ke ve : Expr} {pos : Pos} (t : Nat) (h : ∀ d, Fresh σ d → WE c i ke ρ (fun kv σ₁ => WE c i ve ρ (fun v σ₂ => ∃ k, kv = .str k ∧ σ₂ d = some (t, .sdict []) ∧ Q (.ref d) (σ₂.put d t (.sdict [(k, v)]))) X σ₁) X (σ.put d t (.sdict []))) :
    WE c i (.Dict [some ke] [ve] pos) ρ Q X σ := fun f fr z s a b g R => by
  refine wpAny_Dict_walk (knd := PySem.strKind c.prog c.w) rfl rfl (by simp) (by simp) ?_
  have R₀ := R.alloc (mo := .sdict []) (tk := s.toks) t (.of_grown (grows _ _)) (Nat.le_refl _) (fun q => by cases q) ⟨g.modules R (Nat.le_refl _), _, Heap.get?_push_size _ rfl, keyIs_new _ s.heap⟩
  refine pairTrees_cons_walk ?_
  refine wuse (h _ R.fresh f fr z _ a b g R₀) (fun kv' s₁ kv σ₁ i1 R₁ h₁ => wpAny_mono (h₁ f fr z s₁ a b g R₁) (fun v' s₂ ⟨v, σ₂, i2, R₂, k, e, hd, hq⟩ => pairTrees_nil_walk ?_) fun _ _ x => x) fun _ _ x => x
  subst e
  obtain ⟨tk, rfl⟩ := i1
  obtain ⟨l, kvs, hk, r⟩ := Rel.sdict R₂ hd
  have e0 := r.length
  have : kvs = [] := List.eq_nil_of_length_eq_zero e0.symm
  subst this
  refine ⟨[(k, v')], ⟨PySem.strKind_is _ _ k tk, rfl, trivial⟩, hk, fun h' hk' hs => ⟨.ref s.heap.objs.size, _, rfl, R₂.upd (t' := t) (mo' := .sdict [(k, v)]) hd rfl rfl (.of_same hs (R₂.neL hd)) ⟨l, ?_⟩, hq⟩⟩
  obtain ⟨o, ho, hd'⟩ := Heap.dictOf_iff.mp hk'
  exact ⟨o, ho, _, hd', .cons ⟨rfl, i2⟩ .nil⟩
end
end Mine
open PySem PySem.W PyProof.Rows
set_option maxRecDepth 100000
namespace Mine
inductive Odd (σ : Hp) : MV → Prop
  | int {n} : Odd σ (.int n)
  | none : Odd σ .none
  | bool {b} : Odd σ (.bool b)
  | list {a t xs} : σ a = some (t, .list xs) → Odd σ (.ref a)
theorem Odd.ext {σ σ' : Hp} {v : MV} (h : Odd σ v) (e : ∀ a p, σ a = some p → σ' a = some p) : Odd σ' v := by
  cases h with
  | int => exact .int
  | none => exact .none
  | bool => exact .bool
  | list q => exact .list (e _ _ q)
section
variable {c : Cx} {i : Ix} {ρ : Lo} {σ : Hp} {X : EX} {Q : MV → Hp → Prop} {k : Nat}
theorem Odd.eqv {v : MV} (h : Odd σ v) {x : Str} : EqV c σ k (.str x) v false := fun f ρ fr z s A a u R ia iu hu => by
  obtain ⟨t, rfl⟩ := ia
  cases h with
  | int => obtain ⟨t', rfl⟩ := iu; exact .str_int _ _ _ _
  | none => cases iu; exact .str_none _ _
  | bool => cases iu; exact .str_bool _ _ _
  | list q => cases iu; obtain ⟨its, hi, r⟩ := R.isList (ListAt.own q); exact .str_list _ _ hi (by omega)
theorem Odd.rc1 {v : MV} (h : Odd σ v) {x : Str} : RcV c σ k (.str x) v false := fun f ρ fr z s A a u R ia iu hu => by
  obtain ⟨t, rfl⟩ := ia
  cases h with
  | int => obtain ⟨t', rfl⟩ := iu; exact .str_int _ _ _ _
  | none => cases iu; exact .str_none _ _
  | bool => cases iu; exact .str_bool _ _ _
  | list q => cases iu; obtain ⟨its, hi, r⟩ := R.isList (ListAt.own q); exact .str_list _ _ hi (by omega)
theorem Odd.rn2 {v : MV} (h : Odd σ v) {x : Str} : RnV c σ k v (.str x) true := fun f ρ fr z s A u a R iu ia hu => by
  obtain ⟨t, rfl⟩ := ia
  cases h with
  | int => obtain ⟨t', rfl⟩ := iu; exact .int_str _ _ _ _
  | none => cases iu; exact .none_str _ _
  | bool => cases iu; exact .bool_str _ _ _
  | list q => cases iu; obtain ⟨its, hi, r⟩ := R.isList (ListAt.own q); exact .list_str _ _ hi (by omega)
theorem WC.notInOdd {a : Nat} {ys : List Str} {v : MV} (hn : 1 ≤ i.n) (hl : ListAt σ a (ys.map .str)) (hv : Odd σ v) (h : Q (.bool true) σ) : WC c i .NotIn v (.ref a) ρ Q X σ := fun v' u iv iu f fr z s _ _ g R => by
  cases iu
  obtain ⟨its, hi, r⟩ := R.isList hl
  refine SeqAt.notIn_listAt (fun _ => false) hi (fun y hy => ?_) ⟨.bool true, σ, ?_, R, h⟩
  · obtain ⟨j, hj, rfl⟩ := Array.mem_iff_getElem.mp hy
    obtain ⟨x, t, e1, e2⟩ := strs_at r (m := j) (v := its[j]) (by simp [hj])
    rw [e2]
    exact hv.eqv (c := c) (k := 0) f ρ fr z s f.A.in1 _ _ R ⟨t, rfl⟩ iv (by have := g.units; show f.A.units + 1 + 0 < cLine; omega)
  · show Value.bool _ = _
    have : its.any (fun _ => false) = false := by rw [Array.any_eq_false]; intro j hj; simp
    rw [this]; rfl
end
end Mine
open PySem PySem.W PyProof.Rows
set_option maxRecDepth 100000
namespace Mine
section
variable {c : Cx} {i : Ix} {ρ : Lo} {σ : Hp} {X : SX} {Q : MF → Lo → Hp → Prop}
end
end Mine
open PySem PySem.W PyProof.Rows
set_option maxRecDepth 100000
namespace Mine
section
variable {c : Cx} {i : Ix} {ρ : Lo} {σ : Hp} {X : EX} {Q : MV → Hp → Prop} {k : Nat}
end
end Mine
open PySem PySem.W PyProof.Rows
set_option maxRecDepth 100000
namespace Mine
section
variable {c : Cx} {i : Ix} {ρ : Lo} {σ : Hp} {X : EX} {Q : MV → Hp → Prop} {k : Nat}
end
end Mine
open PySem PySem.W PyProof.Rows
set_option maxRecDepth 100000
namespace Mine
section
variable {prog : Program} {w : World} {A : Around} {E : Value → Shared → Prop} {s : Shared}
end
section
variable {prog : Program} {w : World} {A : Around} {E : Value → Shared → Prop} {s : Shared}
end
section
variable {c : Cx} {i : Ix} {ρ : Lo} {σ : Hp} {X : EX} {Q : MV → Hp → Prop} {k : Nat}
end
end Mine
open PySem PySem.W PyProof.Rows
namespace Mine
theorem entry_unchain : entryFor table "proto.unchain" = some Builtin.«proto.unchain» := entryFor_of_fast (by kernel_rfl)
section
variable {prog : Program} {w : World} {A : Around} {E : Value → Shared → Prop} {s : Shared}
theorem raiseNewB {α : Type} {x e : Nat} {ox oe : Obj} {us vs : Array Value} {Q : α → Shared → Prop} (hh : A.handled = some (.ref e)) (hx : s.heap.get? x = some ox) (hux : ox.data = .fields us) (h2x : 2 < us.size) (he : s.heap.get? e = some oe) (hd : oe.data = .fields vs) (h2 : vs[2]? = some .none) (hne : e ≠ x)
    (hE : E (.ref x) { s with heap := s.heap.update x (Obj.mapFields (·.setIfInBounds 2 (.ref e))) }) : wpAny (model prog w) A (raiseNew (.ref x) : Sem α) Q E s := by
  unfold raiseNew
  refine wpAny_bind (wpAny_handled ?_)
  rw [hh]
  dsimp only
  rw [if_pos (show (Value.ref e != Value.ref x) = true from by simp [hne])]
  refine wpAny_bind (wpAny_holding (wpAny_runValue (codeAny_builtin entry_unchain ?_)))
  unfold Builtin.«proto.unchain»
  dsimp only
  refine wpAny_bind (wpAny_field he hd h2 ?_)
  rw [if_pos (show (Value.none == Value.none) = true from rfl)]
  refine wpAny_pure ?_
  dsimp only
  refine wpAny_bind ?_
  unfold updateField
  refine wpAny_bind (wpAny_load hx ?_)
  rw [hux]
  dsimp only
  rw [if_pos h2x]
  exact wpAny_update hx (wpAny_throw hE)
theorem list_endB {it l : Nat} {i : Nat} {items : Array Value} {e : Nat} {Q : Option Value → Shared → Prop} (hh : A.handled = some (.ref e)) (hB : Bare s.heap e) (hit : s.heap.IsListIter it l i) (hl : s.heap.IsList l items) (hne : e ≠ it) (hx : items[i]? = none)
    (hQ : ∀ h', Heap.ExtBut it s.heap h' → Q none { s with heap := h' }) : wpAny (model prog w) A (pyNext (.ref it)) Q E s := by
  obtain ⟨o, ho, hc, hd⟩ := id hit
  obtain ⟨ol, hol, _, nl, hdl⟩ := hl
  obtain ⟨oe, vs, hoe, hde, h2⟩ := hB
  unfold pyNext
  refine wpAny_bind (wpAny_attempt (wpAny_callSpecial?_slot (name := Str.ofString "__next__") hit.typeIs slot_listiter_next (wpAny_call_entry slot_listiter_next hit.typeIs entry_listiter_next ?_ (args_listiter_next _))))
  show wpAny _ _ (field (.ref it) 0 >>= _) _ _ s
  refine wpAny_bind (wpAny_field ho hd (x := .ref l) rfl ?_)
  show wpAny _ _ (if (Value.ref l == Value.none) = true then _ else _) _ _ s
  rw [if_neg (show ¬ ((Value.ref l == Value.none) = true) from Bool.false_ne_true)]
  show wpAny _ _ (field (.ref it) 1 >>= _) _ _ s
  refine wpAny_bind (wpAny_field ho hd (x := .int i 0) rfl ?_)
  show wpAny _ _ (seqItems? (.ref l) >>= _) _ _ s
  refine wpAny_bind (wpAny_seqItems hol hdl ?_)
  simp only [Int.toNat_natCast, hx]
  refine wpAny_bind (wpAny_rule (wpAny_bind (wpAny_setField ho hd (by simp) ?_)))
  show wpAny _ _ (newExc (.type "StopIteration") [] >>= _) _ _ _
  refine wpAny_bind ?_
  simp only [newExc, newTuple]
  refine wpAny_bind (wpAny_newObj_type ?_ (by size_fits))
  refine wpAny_bind (m := firstArgMember _ _) (wpAny_of_eq (a := Value.none) (by first | rfl | (simp only [firstArgMember]; rfl)) ?_)
  refine wpAny_newObj_type ?_ (by size_fits)
  have old : ∀ {b : Nat} {o' : Obj} (o1 o2 : Obj), b ≠ it → s.heap.get? b = some o' → (((s.heap.update it (Obj.mapFields (·.setIfInBounds 0 Value.none))).push o1).push o2).get? b = some o' := fun o1 o2 hb ho' =>
    Heap.get?_push_of_some o2 (Heap.get?_push_of_some o1 ((Heap.get?_update_other s.heap _ (Ne.symm hb)).trans ho'))
  have lt : ∀ {b : Nat} {o' : Obj} (o1 : Obj), s.heap.get? b = some o' → b ≠ ((s.heap.update it (Obj.mapFields (·.setIfInBounds 0 Value.none))).push o1).objs.size := fun o1 ho' => Nat.ne_of_lt (by
    have := Heap.lt_size ho'
    rw [Heap.size_push, Heap.size_after_update]
    exact Nat.lt_succ_of_lt this)
  refine raiseNewB (A := A.in1) hh (Heap.get?_push_size _ rfl) rfl (by rw [Array.size_append]; exact Nat.lt_of_lt_of_le (by decide : 2 < 6) (Nat.le_add_right _ _)) (old _ _ hne hoe) hde h2 (lt _ hoe) ?_
  refine wpAny_bind (wpAny_isInstance (T := "StopIteration") (b := true) ⟨_, Heap.get?_update_self _ (Heap.get?_push_size _ rfl) rfl, rfl⟩ isSubtype_stop ?_)
  exact wpAny_pure (hQ _ fun b o' hb ho' => (Heap.get?_update_other _ _ (Ne.symm (lt _ ho'))).trans (old _ _ hb ho'))
end
def Held (f : Fm) (fr : Nat → Option Obj) : Prop := ∃ e oe vs, f.A.handled = some (.ref e) ∧ fr e = some oe ∧ oe.data = .fields vs ∧ vs[2]? = some .none
def WK {α μ : Type} (c : Cx) (i : Ix) (V : μ → α → Prop) (t : Env → Sem α) (ρ : Lo) (Q : μ → Hp → Prop) (X : EX) (σ : Hp) : Prop :=
  ∀ f fr z s, f.env.scope = i.sc → (i.hn = true → f.A.handled = none) → Held f fr → Good c i.n f fr → c.Rel f ρ σ fr z s →
    wpAny c.M f.A (t f.env) (fun a s' => ∃ m σ', V m a ∧ c.Rel f ρ σ' fr z s' ∧ Q m σ') (XPost c f fr z (X.at ρ)) s
def WEK (c : Cx) (i : Ix) (e : Expr) := WK c i MV.Is (eval e)
section
variable {c : Cx} {i : Ix} {ρ : Lo} {σ : Hp} {X : EX} {Q : MV → Hp → Prop}
theorem WEK.and {e₁ e₂ : Expr} {pos : Pos} (h : WE c i e₁ ρ (fun v σ₁ => WTr c i v ρ (fun k σ₂ => if k then WEK c i e₂ ρ Q X σ₂ else Q v σ₂) X σ₁) X σ) : WEK c i (.BoolOp .And [e₁, e₂] pos) ρ Q X σ := fun f fr z s a b hd g R =>
  BoolOp_and (wuse (h f fr z s a b g R) (fun _ s₁ _ _ v₁ R₁ h₁ => wuse (h₁ _ v₁ f fr z s₁ a b g R₁) (fun k s₂ k' _ e R₂ h₂ => by
    subst e
    cases k' with
    | true => exact BoolOp_one (h₂ f fr z s₂ a b hd g R₂)
    | false => exact ⟨_, _, v₁, R₂, h₂⟩) fun _ _ x => x) fun _ _ x => x)
theorem WEK.cmp1 {l r : Expr} {op : CmpOp} {pos : Pos} (hm : behindInMarks op r = false) (h : WEK c i l ρ (fun a σ₁ => WE c i r ρ (fun b σ₂ => WC c i op a b ρ Q X σ₂) X σ₁) X σ) : WEK c i (.Compare l [op] [r] pos) ρ Q X σ := fun f fr z s a b hd g R =>
  wpAny_Compare1 (wuse (h f fr z s a b hd g R) (fun _ s₁ _ _ v₁ R₁ h₁ => wuse (h₁ f fr z s₁ a b g R₁) (fun _ s₂ _ _ v₂ R₂ h₂ => h₂ _ _ v₁ v₂ f fr z s₂ a b g R₂) fun _ _ x => x) fun _ _ x => x) hm
theorem WEK.comp {scope : Scope} {x : Str} {px : Pos} {elt iter : Expr} {ifs : List Expr} {pos : Pos} (t : Nat) (hs : NotSet iter) (hok : compOk scope i.sc x = true) (h0 : ρ (".0" : Str) = Option.none)
    (h : WE c i iter ρ (fun v σ₁ => ∃ l xs, v = .ref l ∧ ListAt σ₁ l xs ∧ xs.length ≤ 1000000 ∧ WComp c (i.comp scope) x elt ifs (fun σ => ListAt σ l xs) (fun vs σ₂ => ∀ D, σ₂ D = Option.none → Q (.ref D) (σ₂.put D t (.list vs))) ρ xs [] σ₁) X σ) :
    WEK c i (.ListComp elt [⟨.Name x px, iter, ifs, 0⟩] scope pos) ρ Q X σ := fun f fr z s a b hd g R => by
  have ok : CompOk scope f.env.scope x := by rw [a]; exact compOk_of hok
  show wpAny _ _ (eval _ _) _ _ _
  rw [eval_ListComp]
  refine wpAny_comprehension_free (use := Option.none) rfl (by intro x; exact hs _ x) (ok.clos g) ok.kind (by rw [a] at ok; exact ok.names (compOk_dot hok)) (wpAny_mono (h f fr z s a b g R) (fun u s₁ ⟨v, σ₁, is, R₁, l, xs, ev, hl, hz, h₁⟩ => ?_) fun _ _ x => x)
  subst ev
  cases is
  obtain ⟨its, hi, r⟩ := R₁.isList hl
  have hlt : l < s₁.heap.objs.size := by obtain ⟨o, ho, _⟩ := hi; exact Heap.lt_size ho
  obtain ⟨e, oe, vs, hA, hfe, hde, h2⟩ := hd
  refine wpAny_pyIter_list hi ?_
  obtain ⟨sle, hse, _⟩ := R₁.keep e oe hfe
  have nfoot : ¬ Foot σ₁ e := fun q => by have := (R₁.apart e q).1; rw [hfe] at this; cases this
  have ncell : ∀ y, (y, e) ∉ closOf scope.names f.env.cells [] := fun y hy => by have := (R₁.frame.2 _ _ (clos_mem g ok hy).1).1; rw [hfe] at this; cases this
  have T := Steps.list c (Nat.ne_of_lt hlt) xs
  refine comp_code T (fun {k f' ρ' σ' s' Q' E'} R' st it e' hQ => ?_) a b g R₁ ok h0 (grows _ _) (Nat.le_refl _) (by rw [Heap.size_push]; exact Nat.lt_succ_self _) hz ⟨_, Heap.get?_push_size _ rfl, rfl, rfl⟩ h₁ (RR := fun acc C => compPost _ _ _ Option.none _ acc C) ?_
  · obtain ⟨its', hi', r'⟩ := R'.isList st
    obtain ⟨sl', hse', _⟩ := R'.keep e _ (restC_of nfoot ncell hse)
    refine list_endB hA ⟨_, vs, hse', hde, h2⟩ it hi' (Nat.ne_of_lt (Heap.lt_size hse)) ?_ fun h' hs => hQ h' _ hs
    have := r'.length
    rw [Array.getElem?_eq_none_iff]
    rw [List.getElem?_eq_none_iff] at e'
    simp at this
    omega
  · intro D C vs σ' its k m s' R' hD hv alD alC hDC hnC hQ
    refine ⟨m, hnC, fun h' hs' => ?_⟩
    have R'' := R'.alien (tk := s'.toks) alC (Alien.none g R' alC) (h' := h') fun a o ne e => (hs'.2 a ne).trans e
    exact ⟨.ref D, _, rfl, Rel.adopt R'' t alD ((hs'.2 D hDC).trans hD) hv, hQ D (Alien.sigma g R' alD)⟩
end
theorem XRel.alien {c : Cx} {n : Nat} {f : Fm} {fr : Nat → Option Obj} {ρ : Lo} {σ : Hp} {z s : Shared} {C e : Nat} (x : XRel c false f ρ σ fr z s C e) : Alien f σ fr e := by
  obtain ⟨h, t', vs, R, fl, ht, tup, U, _⟩ := x
  have hn : h.get? e = none := fly_none fl
  have no : ∀ {o}, h.get? e ≠ some o := fun q => by rw [hn] at q; cases q
  refine ⟨?_, fun q => ?_, fun q => ?_, fun y k hk q => ?_⟩
  · cases q : fr e with
    | none => rfl
    | some o => obtain ⟨sl, ho, _⟩ := R.keep e o q; exact absurd ho no
  · rcases q with ⟨t1, mo, q, _⟩ | ⟨t1, C', fs, q⟩
    · obtain ⟨o, ho⟩ := (R.objs _ t1 _ q).there; exact absurd ho no
    · obtain ⟨o, ho⟩ := (R.objs _ t1 _ q).dict_there; exact absurd ho no
  · obtain ⟨m, ⟨o, es, ep, ho, _⟩, _⟩ := R.ns
    exact absurd ((show e = f.L from q) ▸ ho) no
  · obtain ⟨o, v, ho, _⟩ := R.cel y k hk
    exact absurd (q ▸ ho) no
theorem WH.hitK {c : Cx} {n : Nat} {hn : Bool} {sc : Scope} {ρ : Lo} {σ : Hp} {X : SX} {Q : MF → Lo → Hp → Prop} {x : Str} {np : Pos} {ex : Expr} {rpos pos : Pos} {rest : List ExceptHandler} {C D e : Nat} (ho : HandOk c ⟨n, hn, sc⟩ x D) (hsub : subIn c.K (.ref C) (.ref D) = some true)
    (h : WEK c ⟨n, false, sc⟩ ex ρ (fun v σ' => Q (.ret v) ρ σ') noX σ) : WH c ⟨n, hn, sc⟩ (.ExceptHandler (some (.Name x np)) Option.none [.Return (some ex) rpos] pos :: rest) C e ρ Q X σ := fun f fr z s a b g xr => by
  refine wpAny_handleBy_cons (test_own ho hsub a g xr ?_) (by intro q; cases q)
  have al := xr.alien (n := n)
  obtain ⟨h₁, t, vs, R₁, fl, ht, tup, U, B⟩ := xr
  show codeAny _ _ _ _ _
  refine codeAny_handlers_suite (landB_again fl B fun h₆ fl₆ B₆ U₆ => ?_)
  have xr₆ : XRel c false f ρ σ fr z { s with heap := h₆ } C e := ⟨h₁, t, vs, R₁, fl₆, ht, tup.of_slots U₆, U.trans U₆, B₆⟩
  obtain ⟨oe, ws, hoe, hde, h2⟩ := B₆
  have ne : e ∉ f.slotted := fun h => by obtain ⟨o, q⟩ := g.slotIn e h; rw [al.fr] at q; cases q
  have R₆ := ((xr₆.rel g).add al hoe).withA (A' := f.A.mark (some (.ref e)))
  refine wpAny_execs_cons (wpAny_Return_some (wuse (h { f with A := f.A.mark (some (.ref e)) } (addFr fr e oe) z _ a (fun q => by cases q) ⟨e, oe, ws, rfl, addFr_self, hde, h2⟩ (g.add al.fr).marked R₆) (fun u s₁ v σ₁ is R₇ q => ?_) fun _ _ x => noX_elim x))
  obtain ⟨R₈, _, _⟩ := Rel.drop al.fr R₇.ofA ne
  exact ⟨.ret v, ρ, σ₁, ⟨u, rfl, is⟩, R₈, q⟩
end Mine
open PySem PySem.W PyProof.Rows
namespace Mine
name_quick tw8991002595893925972 for S.findZ by S.findZ_eq
name_quick tw8075568018651887793 for S.findZ by S.findZ_eq
name_quick tw16721411375658139721 for S.findZ by S.findZ_eq
name_quick tw11313744364127287754 for S.findZ by S.findZ_eq
name_quick tw17561685609155626696 for S.findZ by S.findZ_eq
name_quick tw14979626087600564940 for S.findZ by S.findZ_eq
name_quick tw17799885083514842280 for S.findZ by S.findZ_eq
name_quick tw9539479885485572040 for S.findZ by S.findZ_eq
name_quick tw7249307268997179994 for S.findZ by S.findZ_eq
name_quick tw7446928531880210046 for S.findZ by S.findZ_eq
name_quick tw14350764541406611093 for S.findZ by S.findZ_eq
name_quick tw11568815363187515441 for S.findZ by S.findZ_eq
name_quick tw4802206622296518355 for S.findZ by S.findZ_eq
name_quick tw9438727661952587866 for S.findZ by S.findZ_eq
name_quick tw132011934403449861 for S.findZ by S.findZ_eq
name_quick tw10810343834524570367 for S.findZ by S.findZ_eq
name_quick tw16860790470070532269 for S.findZ by S.findZ_eq
name_quick tw14473539162793888280 for S.findZ by S.findZ_eq
name_quick tw3325841961599345399 for S.findZ by S.findZ_eq
name_quick tw17071476683966804577 for S.findZ by S.findZ_eq
name_quick tw10695241705296601692 for S.findZ by S.findZ_eq
name_quick tw11398097091735476289 for S.findZ by S.findZ_eq
name_quick tw12095823642532355627 for S.findZ by S.findZ_eq
name_quick tw13833065179229638619 for S.findZ by S.findZ_eq
name_quick tw7081425507203772304 for S.findZ by S.findZ_eq
name_quick tw10042830170769951172 for S.findZ by S.findZ_eq
name_quick tw16413963553889246368 for S.findZ by S.findZ_eq
name_quick tw5832503352825792928 for S.findZ by S.findZ_eq
name_quick tw13871001218405608335 for S.findZ by S.findZ_eq
name_quick tw9339011207650244144 for S.findZ by S.findZ_eq
name_quick tw878741703135273975 for S.findZ by S.findZ_eq
name_quick tw13252181687094117063 for S.findZ by S.findZ_eq
name_quick tw17001327861769816259 for S.findZ by S.findZ_eq
name_quick tw15542691292777871779 for S.findZ by S.findZ_eq
name_quick tw460243522976405022 for S.findZ by S.findZ_eq
name_quick tw17134893352704234603 for S.findZ by S.findZ_eq
name_quick tw5706481520468235054 for S.findZ by S.findZ_eq
name_quick tw1355338860687761863 for S.findZ by S.findZ_eq
name_quick tw3315324234476444515 for S.findZ by S.findZ_eq
name_quick tw17024950926791866790 for S.findZ by S.findZ_eq
name_quick tw14209830616999942402 for S.findZ by S.findZ_eq
name_quick tw11790162104776037713 for S.findZ by S.findZ_eq
name_quick tw2718901123391026995 for S.findZ by S.findZ_eq
name_quick tw358454259470677404 for S.findZ by S.findZ_eq
name_quick tw18410474027866654770 for S.findZ by S.findZ_eq
name_quick tw16494616584097029746 for S.findZ by S.findZ_eq
name_quick tw10487160056961263569 for S.findZ by S.findZ_eq
name_quick tw2378363196638174374 for S.findZ by S.findZ_eq
name_quick tw662354867322794072 for S.findZ by S.findZ_eq
name_quick tw441327347791068078 for S.findZ by S.findZ_eq
name_quick tw1708024556718086227 for S.findZ by S.findZ_eq
name_quick tw18263319221461684349 for S.findZ by S.findZ_eq
name_quick tw17846936440860909165 for S.findZ by S.findZ_eq
name_quick tw13640514254501968386 for S.findZ by S.findZ_eq
name_quick tw6307075928179450975 for S.findZ by S.findZ_eq
name_quick tw7009043117176579089 for S.findZ by S.findZ_eq
name_quick tw1218959903707654005 for S.findZ by S.findZ_eq
name_quick tw4901318299020614408 for S.findZ by S.findZ_eq
name_quick tw16437185098154296904 for S.findZ by S.findZ_eq
name_quick tw930746551332336609 for S.findZ by S.findZ_eq
name_quick tw11277716924127702174 for S.findZ by S.findZ_eq
name_quick tw16374537267813192141 for S.findZ by S.findZ_eq
name_quick tw11788150170368784547 for S.findZ by S.findZ_eq
name_quick tw14073706353221006472 for S.findZ by S.findZ_eq
name_quick tw8488268690174267210 for S.findZ by S.findZ_eq
name_quick tw16792545251062261874 for S.findZ by S.findZ_eq
name_quick tw17000155066101142889 for S.findZ by S.findZ_eq
name_quick tw14112274594779413971 for S.findZ by S.findZ_eq
name_quick tw2660918139993853925 for S.findZ by S.findZ_eq
name_quick tw7788680626742099145 for S.findZ by S.findZ_eq
name_quick tw3636048126100218174 for S.findZ by S.findZ_eq
name_quick tw13915792640404377917 for S.findZ by S.findZ_eq
name_quick tw17828083071136270317 for S.findZ by S.findZ_eq
name_quick tw12850107946570832962 for S.findZ by S.findZ_eq
name_quick tw17827458813498177553 for S.findZ by S.findZ_eq
name_quick tw1320183511955256522 for S.findZ by S.findZ_eq
name_quick tw18340240734955500558 for S.findZ by S.findZ_eq
name_quick tw3209381107111851631 for S.findZ by S.findZ_eq
name_quick tw16349216596472256690 for S.findZ by S.findZ_eq
name_quick tw2670528217467546775 for S.findZ by S.findZ_eq
name_quick tw16176465441171805009 for S.findZ by S.findZ_eq
name_quick tw17244072584429378644 for S.findZ by S.findZ_eq
name_quick tw2905824091091238844 for S.findZ by S.findZ_eq
name_quick tw5701610774189311196 for S.findZ by S.findZ_eq
name_quick tw7392212959928792091 for S.findZ by S.findZ_eq
name_quick tw8642067239939848140 for S.findZ by S.findZ_eq
name_quick tw17279654841073493023 for S.findZ by S.findZ_eq
name_quick tw5248340912204065574 for S.findZ by S.findZ_eq
name_quick tw12635297910168745909 for S.findZ by S.findZ_eq
name_quick tw3880421473898291048 for S.findZ by S.findZ_eq
name_quick tw16966814322356759819 for S.findZ by S.findZ_eq
name_quick tw16846860572762119324 for S.findZ by S.findZ_eq
name_quick tw7892128664451923741 for S.findZ by S.findZ_eq
name_quick tw6789855027759293466 for S.findZ by S.findZ_eq
name_quick tw1886563365779066154 for S.findZ by S.findZ_eq
name_quick tw219737044198020058 for S.findZ by S.findZ_eq
name_quick tw17863021456227041891 for S.findZ by S.findZ_eq
name_quick tw3039592710220408265 for S.findZ by S.findZ_eq
name_quick tw13759679279233594173 for S.findZ by S.findZ_eq
name_quick tw18345786424863182364 for S.findZ by S.findZ_eq
name_quick tw1617757218408452269 for S.findZ by S.findZ_eq
name_quick tw16655555454665732581 for S.findZ by S.findZ_eq
name_quick tw12488000419048109807 for S.findZ by S.findZ_eq
name_quick tw9537544019596298400 for S.findZ by S.findZ_eq
name_quick tw11707433790658880453 for S.findZ by S.findZ_eq
name_quick tw8450942572126056277 for S.findZ by S.findZ_eq
name_quick tw12726346659333912481 for S.findZ by S.findZ_eq
name_quick tw9759809726879904816 for S.findZ by S.findZ_eq
name_quick tw17274371674624000324 for S.findZ by S.findZ_eq
name_quick tw16548257151911338427 for S.findZ by S.findZ_eq
name_quick tw16697116713213952808 for S.findZ by S.findZ_eq
name_quick tw13471461260053382970 for S.findZ by S.findZ_eq
name_quick tw8989982439271903415 for S.findZ by S.findZ_eq
name_quick tw2719445374943340272 for S.findZ by S.findZ_eq
name_quick tw10833955939284561965 for S.findZ by S.findZ_eq
name_quick tw14884601019740666482 for S.findZ by S.findZ_eq
name_quick tw13314330512976039754 for S.findZ by S.findZ_eq
name_quick tw15880737140895825463 for S.findZ by S.findZ_eq
name_quick tw4921902886906138986 for S.findZ by S.findZ_eq
name_quick tw2074212568426387133 for S.findZ by S.findZ_eq
name_quick tw1041845030581493396 for S.findZ by S.findZ_eq
name_quick tw9821368406582625841 for S.findZ by S.findZ_eq
name_quick tw17344680358763864322 for S.findZ by S.findZ_eq
name_quick tw2599325451414397859 for S.findZ by S.findZ_eq
name_quick tw18211773271919218964 for S.findZ by S.findZ_eq
name_quick tw9501820088010722379 for S.findZ by S.findZ_eq
name_quick tw313226197891681235 for S.findZ by S.findZ_eq
name_quick tw15562837088269578035 for S.findZ by S.findZ_eq
name_quick tw2354101950205528012 for S.findZ by S.findZ_eq
name_quick tw13981391230805400906 for S.findZ by S.findZ_eq
name_quick tw17954471519018878134 for S.findZ by S.findZ_eq
name_quick tw11740888236361828772 for S.findZ by S.findZ_eq
name_quick tw7504490480230193789 for S.findZ by S.findZ_eq
name_quick tw11518781747449614426 for S.findZ by S.findZ_eq
name_quick tw4278798014809849964 for S.findZ by S.findZ_eq
name_quick tw9626621113073979434 for S.findZ by S.findZ_eq
name_quick tw13559156169165276386 for S.findZ by S.findZ_eq
name_quick tw14224011070414065920 for S.findZ by S.findZ_eq
name_quick tw2001226814458364393 for S.findZ by S.findZ_eq
name_quick tw8902219603052485911 for S.findZ by S.findZ_eq
name_quick tw4172830789200971933 for S.findZ by S.findZ_eq
name_quick tw15542503528162795033 for S.findZ by S.findZ_eq
name_quick tw15900120412870309639 for S.findZ by S.findZ_eq
name_quick tw2664551874359636763 for S.findZ by S.findZ_eq
name_quick tw8271852410755176070 for S.findZ by S.findZ_eq
name_quick tw10939839348159177617 for S.findZ by S.findZ_eq
name_quick tw4525517667737911620 for S.findZ by S.findZ_eq
name_quick tw16752143609539240740 for S.findZ by S.findZ_eq
name_quick tw724751600484774222 for S.findZ by S.findZ_eq
name_quick tw2422670821966735624 for S.findZ by S.findZ_eq
name_quick tw15919542637913265678 for S.findZ by S.findZ_eq
name_quick tw12393455550290869266 for S.findZ by S.findZ_eq
name_quick tw7483462131439158144 for S.findZ by S.findZ_eq
name_quick tw10996506086634736982 for S.findZ by S.findZ_eq
name_quick tw12659028871203227004 for S.findZ by S.findZ_eq
name_quick tw13615603153576403970 for S.findZ by S.findZ_eq
name_quick tw13580328829973926956 for S.findZ by S.findZ_eq
name_quick tw6004533443673955352 for S.findZ by S.findZ_eq
name_quick tw3560238982266916124 for S.findZ by S.findZ_eq
name_quick tw4224760802259116069 for S.findZ by S.findZ_eq
name_quick tw189603312586018693 for S.findZ by S.findZ_eq
name_quick tw9376109419431680627 for S.findZ by S.findZ_eq
name_quick tw17552769576498331613 for S.findZ by S.findZ_eq
name_quick tw16439824349840649037 for S.findZ by S.findZ_eq
name_quick tw7365555872484859036 for S.findZ by S.findZ_eq
name_quick tw667198328695590252 for S.findZ by S.findZ_eq
name_quick tw16296994325663420285 for S.findZ by S.findZ_eq
name_quick tw5032809538720368765 for S.findZ by S.findZ_eq
name_quick tw17111948838632640456 for S.findZ by S.findZ_eq
name_quick tw4980102563643897964 for S.findZ by S.findZ_eq
name_quick tw4039474712603431140 for S.findZ by S.findZ_eq
name_quick tw8595292554425487202 for S.findZ by S.findZ_eq
name_quick tw4071324889030633612 for S.findZ by S.findZ_eq
name_quick tw9564595351457756722 for S.findZ by S.findZ_eq
name_quick tw13016732220969518872 for S.findZ by S.findZ_eq
name_quick tw16349804527192203551 for S.findZ by S.findZ_eq
name_quick tw392140993173905013 for S.findZ by S.findZ_eq
name_quick tw13678640442995254988 for S.findZ by S.findZ_eq
name_quick tw4552823106982906706 for S.findZ by S.findZ_eq
name_quick tw7745614565497352828 for S.findZ by S.findZ_eq
name_quick tw16916688483869632129 for S.findZ by S.findZ_eq
name_quick tw13317431791736044220 for S.findZ by S.findZ_eq
name_quick tw5732905514179830355 for S.findZ by S.findZ_eq
name_quick tw18416463498863911781 for S.findZ by S.findZ_eq
name_quick tw17394056326795013819 for S.findZ by S.findZ_eq
name_quick tw1377046205977697930 for S.findZ by S.findZ_eq
name_quick tw951843321253372498 for S.findZ by S.findZ_eq
name_quick tw4658958612460137192 for S.findZ by S.findZ_eq
name_quick tw14333388528381170442 for S.findZ by S.findZ_eq
name_quick tw2283851925072248500 for S.findZ by S.findZ_eq
name_quick tw7269565832213808900 for S.findZ by S.findZ_eq
name_quick tw1333364371103165705 for S.findZ by S.findZ_eq
name_quick tw3131671291697673992 for S.findZ by S.findZ_eq
name_quick tw16817318245366136608 for S.findZ by S.findZ_eq
name_quick tw14223099787259518943 for S.findZ by S.findZ_eq
name_quick tw5978237884098788730 for S.findZ by S.findZ_eq
name_quick tw12945451867199242903 for S.findZ by S.findZ_eq
name_quick tw18273839248471157720 for S.findZ by S.findZ_eq
name_quick tw8703263022893421829 for S.findZ by S.findZ_eq
name_quick tw9011979029575296479 for S.findZ by S.findZ_eq
name_quick tw14834023430324568649 for S.findZ by S.findZ_eq
name_quick tw3105397867545767578 for S.findZ by S.findZ_eq
name_quick tw389472881494512206 for S.findZ by S.findZ_eq
name_quick tw17100903815162463580 for S.findZ by S.findZ_eq
name_quick tw4527066259768149269 for S.findZ by S.findZ_eq
name_quick tw1503297043503765363 for S.findZ by S.findZ_eq
name_quick tw1702518465993881591 for S.findZ by S.findZ_eq
name_quick tw470574548607681690 for S.findZ by S.findZ_eq
name_quick tw17888162413812561239 for S.findZ by S.findZ_eq
name_quick tw18056578402003937789 for S.findZ by S.findZ_eq
name_quick tw14537914154153760125 for S.findZ by S.findZ_eq
name_quick tw3152983702415266003 for S.findZ by S.findZ_eq
name_quick tw9467589175468403638 for S.findZ by S.findZ_eq
name_quick tw13512673800721320934 for S.findZ by S.findZ_eq
name_quick tw17476080006546285661 for S.findZ by S.findZ_eq
name_quick tw12233582284571471492 for S.findZ by S.findZ_eq
name_quick tw15560853006256673968 for S.findZ by S.findZ_eq
name_quick tw9676229304581654039 for S.findZ by S.findZ_eq
name_quick tw7802139600951554647 for S.findZ by S.findZ_eq
name_quick tw6550987210724342151 for S.findZ by S.findZ_eq
name_quick tw7401281599722004195 for S.findZ by S.findZ_eq
name_quick tw12177639751122801600 for S.findZ by S.findZ_eq
name_quick tw6122645084068987007 for S.findZ by S.findZ_eq
name_quick tw3442601649717412197 for S.findZ by S.findZ_eq
name_quick tw2736616831223182526 for S.findZ by S.findZ_eq
name_quick tw8224813933742928703 for S.findZ by S.findZ_eq
name_quick tw14896874001708588922 for S.findZ by S.findZ_eq
name_quick tw12647630874787467225 for S.findZ by S.findZ_eq
name_quick tw11838138170533393997 for S.findZ by S.findZ_eq
name_quick tw1763209079605825380 for S.findZ by S.findZ_eq
name_quick tw5200128776193632040 for S.findZ by S.findZ_eq
name_quick tw12821735335276811757 for S.findZ by S.findZ_eq
name_quick tw8719427161674164953 for S.findZ by S.findZ_eq
name_quick tw15195428891847259777 for S.findZ by S.findZ_eq
name_quick tw6148621092414575339 for S.findZ by S.findZ_eq
name_quick tw12022618010286034681 for S.findZ by S.findZ_eq
name_quick tw10470071008263537045 for S.findZ by S.findZ_eq
name_quick tw6144853644547557980 for S.findZ by S.findZ_eq
name_quick tw2193789692954389824 for S.findZ by S.findZ_eq
name_quick tw7585139358526817783 for S.findZ by S.findZ_eq
name_quick tw9458956999447867950 for S.findZ by S.findZ_eq
name_quick tw12182807814244774211 for S.findZ by S.findZ_eq
name_quick tw7286323032743288035 for S.findZ by S.findZ_eq
name_quick tw3436264866546951355 for S.findZ by S.findZ_eq
name_quick tw17026713947507217902 for S.findZ by S.findZ_eq
name_quick tw1749818173716722547 for S.findZ by S.findZ_eq
name_quick tw10323183001455561277 for S.findZ by S.findZ_eq
name_quick tw15034313371233782410 for S.findZ by S.findZ_eq
name_quick tw7469732015759309437 for S.findZ by S.findZ_eq
name_quick tw2711585505577850959 for S.findZ by S.findZ_eq
name_quick tw11306939235166856333 for S.findZ by S.findZ_eq
name_quick tw18260038339965228139 for S.findZ by S.findZ_eq
name_quick tw2460228577881660442 for S.findZ by S.findZ_eq
name_quick tw3264259588550801142 for S.findZ by S.findZ_eq
name_quick tw9151444980202551346 for S.findZ by S.findZ_eq
name_quick tw12945968074294007009 for S.findZ by S.findZ_eq
name_quick tw3386650904741475044 for S.findZ by S.findZ_eq
name_quick tw10706342367453228570 for S.findZ by S.findZ_eq
name_quick tw3470799630455053000 for S.findZ by S.findZ_eq
name_quick tw7650934615059315214 for S.findZ by S.findZ_eq
name_quick tw3093977132361051618 for S.findZ by S.findZ_eq
name_quick tw9979284746773624096 for S.findZ by S.findZ_eq
name_quick tw7250012664060256230 for S.findZ by S.findZ_eq
name_quick tw3424931102881643321 for S.findZ by S.findZ_eq
name_quick tw5697894365363955025 for S.findZ by S.findZ_eq
name_quick tw325292655437039998 for S.findZ by S.findZ_eq
name_quick tw11445135464325071761 for S.findZ by S.findZ_eq
name_quick tw721709456127091705 for S.findZ by S.findZ_eq
name_quick tw2611137233208623240 for S.findZ by S.findZ_eq
name_quick tw10314498396905981064 for S.findZ by S.findZ_eq
name_quick tw7670514497116975361 for S.findZ by S.findZ_eq
name_quick tw13721567128424951087 for S.findZ by S.findZ_eq
name_quick tw17015423121036801654 for S.findZ by S.findZ_eq
name_quick tw10308316962582663543 for S.findZ by S.findZ_eq
name_quick tw15041003319150489328 for S.findZ by S.findZ_eq
name_quick tw13254397897704925713 for S.findZ by S.findZ_eq
name_quick tw16942504070071679284 for S.findZ by S.findZ_eq
name_quick tw1184552218554016812 for S.findZ by S.findZ_eq
name_quick tw14326252917377295143 for S.findZ by S.findZ_eq
name_quick tw4775785305629353868 for S.findZ by S.findZ_eq
name_quick tw5902227825499142635 for S.findZ by S.findZ_eq
name_quick tw7276740287692124622 for S.findZ by S.findZ_eq
name_quick tw9787396351842916947 for S.findZ by S.findZ_eq
name_quick tw12898947447245864913 for S.findZ by S.findZ_eq
name_quick tw11817470609975844035 for S.findZ by S.findZ_eq
name_quick tw5925582254088234700 for S.findZ by S.findZ_eq
name_quick tw383695940523520267 for S.findZ by S.findZ_eq
name_quick tw1638017585896720355 for S.findZ by S.findZ_eq
name_quick tw8620020772036689432 for S.findZ by S.findZ_eq
name_quick tw704327219915372674 for S.findZ by S.findZ_eq
name_quick tw607167704815816724 for S.findZ by S.findZ_eq
name_quick tw16406328271908756883 for S.findZ by S.findZ_eq
name_quick tw12809422525583811893 for S.findZ by S.findZ_eq
name_quick tw18126140380344562322 for S.findZ by S.findZ_eq
name_quick tw10500077913531017323 for S.findZ by S.findZ_eq
name_quick tw8579058602437062094 for S.findZ by S.findZ_eq
name_quick tw5770868932273138760 for S.findZ by S.findZ_eq
name_quick tw15066959818950650227 for S.findZ by S.findZ_eq
name_quick tw9285146279643344392 for S.findZ by S.findZ_eq
name_quick tw11964429278604863157 for S.findZ by S.findZ_eq
name_quick tw3976722010076183465 for S.findZ by S.findZ_eq
name_quick tw1706496860858754268 for S.findZ by S.findZ_eq
name_quick tw9265879793445154701 for S.findZ by S.findZ_eq
name_quick tw9315938663221665524 for S.findZ by S.findZ_eq
name_quick tw1258299570235058372 for S.findZ by S.findZ_eq
name_quick tw2408619945344806742 for S.findZ by S.findZ_eq
name_quick tw13642483538084851733 for S.findZ by S.findZ_eq
name_quick tw6125931036764729998 for S.findZ by S.findZ_eq
name_quick tw8693227569615203950 for S.findZ by S.findZ_eq
name_quick tw10227693086864044499 for S.findZ by S.findZ_eq
name_quick tw11985326045990495214 for S.findZ by S.findZ_eq
name_quick tw17164873540382356111 for S.findZ by S.findZ_eq
name_quick tw12329403913580668285 for S.findZ by S.findZ_eq
name_quick tw6654550962395885724 for S.findZ by S.findZ_eq
name_quick tw6587116730350146372 for S.findZ by S.findZ_eq
name_quick tw11994158751524154303 for S.findZ by S.findZ_eq
name_quick tw14108194823987119177 for S.findZ by S.findZ_eq
set_option maxRecDepth 100000 in
set_option maxHeartbeats 8000000 in
open_top hd for PySem.Challenge.rw_uf030004_09
end Mine
open PySem PySem.W PyProof.Rows
set_option maxRecDepth 100000
set_option maxHeartbeats 4000000
namespace Mine
abbrev a_is_whole : Nat := 149
abbrev a_step : Nat := 156
abbrev a_is_name : Nat := 294
abbrev a_law_names_by : Nat := 420
abbrev a_law_refusal : Nat := 427
abbrev a_law_done : Nat := 434
abbrev a_law_is_share : Nat := 441
abbrev a_law_due : Nat := 446
abbrev a_law_wheel_good : Nat := 451
abbrev a_law : Nat := 456
abbrev a_ShareError : Nat := 31
abbrev a_BadShare : Nat := 44
abbrev a_BadName : Nat := 56
abbrev a_Twice : Nat := 68
abbrev a_NoTeam : Nat := 80
abbrev a_NoName : Nat := 92
abbrev a_NotHand : Nat := 104
abbrev a_NotEmpty : Nat := 116
abbrev a_BadCount : Nat := 128
abbrev a_NoDeed : Nat := 140
abbrev a_Sharer : Nat := 173
abbrev a_Wheel : Nat := 285
abbrev a_House : Nat := 409
abbrev m_Sharer_init : Nat := 170
abbrev m_Wheel_init : Nat := 191
abbrev m_Wheel_need : Nat := 198
abbrev m_Wheel_enter : Nat := 205
abbrev m_Wheel_leave : Nat := 212
abbrev m_Wheel_reshare : Nat := 219
abbrev m_Wheel_wake : Nat := 226
abbrev m_Wheel_rest : Nat := 233
abbrev m_Wheel_whose : Nat := 240
abbrev m_Wheel_turn : Nat := 247
abbrev m_Wheel_names : Nat := 254
abbrev m_Wheel_clock_of : Nat := 261
abbrev m_Wheel_share_of : Nat := 268
abbrev m_Wheel_is_ready : Nat := 275
abbrev m_Wheel_copied : Nat := 282
abbrev m_House_init : Nat := 308
abbrev m_House_is_team : Nat := 315
abbrev m_House_need : Nat := 322
abbrev m_House_need_hand : Nat := 329
abbrev m_House_stand : Nat := 336
abbrev m_House_team : Nat := 343
abbrev m_House_hand : Nat := 350
abbrev m_House_leave : Nat := 357
abbrev m_House_reshare : Nat := 364
abbrev m_House_wake : Nat := 371
abbrev m_House_rest : Nat := 378
abbrev m_House_deal : Nat := 385
abbrev m_House_copied : Nat := 392
abbrev m_House_wheel_of : Nat := 406
noncomputable def tab : Tab where
  glob := [(("is_whole" : Str), .ref a_is_whole), (("step" : Str), .ref a_step), (("is_name" : Str), .ref a_is_name), (("_law_names_by" : Str), .ref a_law_names_by), (("_law_refusal" : Str), .ref a_law_refusal), (("_law_done" : Str), .ref a_law_done), (("_law_is_share" : Str), .ref a_law_is_share), (("_law_due" : Str), .ref a_law_due), (("_law_wheel_good" : Str), .ref a_law_wheel_good), (("law" : Str), .ref a_law), (("ShareError" : Str), .ref a_ShareError), (("BadShare" : Str), .ref a_BadShare), (("BadName" : Str), .ref a_BadName), (("Twice" : Str), .ref a_Twice), (("NoTeam" : Str), .ref a_NoTeam), (("NoName" : Str), .ref a_NoName), (("NotHand" : Str), .ref a_NotHand), (("NotEmpty" : Str), .ref a_NotEmpty), (("BadCount" : Str), .ref a_BadCount), (("NoDeed" : Str), .ref a_NoDeed), (("Sharer" : Str), .ref a_Sharer), (("Wheel" : Str), .ref a_Wheel), (("House" : Str), .ref a_House), (("ROUND" : Str), .int 27720), (("MOST" : Str), .int 12), (("TOP" : Str), .str ""), (("LETTERS" : Str), .str "abcdefghijklmnopqrstuvwxyz"), (("MOST_LETTERS" : Str), .int 8), (("ValueError" : Str), .con (.type "ValueError")), (("all" : Str), .con (.builtin "all")), (("bool" : Str), .con (.type "bool")), (("int" : Str), .con (.type "int")), (("isinstance" : Str), .con (.builtin "isinstance")), (("len" : Str), .con (.builtin "len")), (("list" : Str), .con (.type "list")), (("max" : Str), .con (.builtin "max")), (("range" : Str), .con (.type "range")), (("str" : Str), .con (.type "str"))]
  meth := [((a_Sharer, ("__init__" : Str)), m_Sharer_init), ((a_Wheel, ("__init__" : Str)), m_Wheel_init), ((a_Wheel, ("need" : Str)), m_Wheel_need), ((a_Wheel, ("enter" : Str)), m_Wheel_enter), ((a_Wheel, ("leave" : Str)), m_Wheel_leave), ((a_Wheel, ("reshare" : Str)), m_Wheel_reshare), ((a_Wheel, ("wake" : Str)), m_Wheel_wake), ((a_Wheel, ("rest" : Str)), m_Wheel_rest), ((a_Wheel, ("whose" : Str)), m_Wheel_whose), ((a_Wheel, ("turn" : Str)), m_Wheel_turn), ((a_Wheel, ("names" : Str)), m_Wheel_names), ((a_Wheel, ("clock_of" : Str)), m_Wheel_clock_of), ((a_Wheel, ("share_of" : Str)), m_Wheel_share_of), ((a_Wheel, ("is_ready" : Str)), m_Wheel_is_ready), ((a_Wheel, ("copied" : Str)), m_Wheel_copied), ((a_House, ("__init__" : Str)), m_House_init), ((a_House, ("is_team" : Str)), m_House_is_team), ((a_House, ("need" : Str)), m_House_need), ((a_House, ("need_hand" : Str)), m_House_need_hand), ((a_House, ("stand" : Str)), m_House_stand), ((a_House, ("team" : Str)), m_House_team), ((a_House, ("hand" : Str)), m_House_hand), ((a_House, ("leave" : Str)), m_House_leave), ((a_House, ("reshare" : Str)), m_House_reshare), ((a_House, ("wake" : Str)), m_House_wake), ((a_House, ("rest" : Str)), m_House_rest), ((a_House, ("deal" : Str)), m_House_deal), ((a_House, ("copied" : Str)), m_House_copied), ((a_House, ("wheel_of" : Str)), m_House_wheel_of)]
  fld := [(a_Sharer, ("share" : Str)), (a_Sharer, ("clock" : Str)), (a_Sharer, ("ready" : Str)), (a_Wheel, ("past" : Str)), (a_Wheel, ("sharers" : Str)), (a_House, ("wheels" : Str)), (a_House, ("above" : Str))]
  init := [(a_Sharer, m_Sharer_init), (a_Wheel, m_Wheel_init), (a_House, m_House_init)]
  fns := [a_is_whole, a_step, a_is_name, a_law_names_by, a_law_refusal, a_law_done, a_law_is_share, a_law_due, a_law_wheel_good, a_law]
noncomputable def cx (w : World) (mean : ExcName → Option Value) (mg mb : Str → Option Value) : Cx := tab.cx PySem.Challenge.rw_uf030004_09.row.prog w (hd.heap_39 w.params) hd.view_39 (looseW hd.view_39 []) mean mg mb
theorem cx_ok (w : World) (mean : ExcName → Option Value) (mg mb : Str → Option Value) : CxOk (cx w mean mg mb) := Tab.ok
  (all_cons (globRef (by kernel_rfl) (by kernel_rfl)) (all_cons (globRef (by kernel_rfl) (by kernel_rfl)) (all_cons (globRef (by kernel_rfl) (by kernel_rfl)) (all_cons (globRef (by kernel_rfl) (by kernel_rfl)) (all_cons (globRef (by kernel_rfl) (by kernel_rfl)) (all_cons (globRef (by kernel_rfl) (by kernel_rfl)) (all_cons (globRef (by kernel_rfl) (by kernel_rfl)) (all_cons (globRef (by kernel_rfl) (by kernel_rfl)) (all_cons (globRef (by kernel_rfl) (by kernel_rfl)) (all_cons (globRef (by kernel_rfl) (by kernel_rfl)) (all_cons (globRef (by kernel_rfl) (by kernel_rfl)) (all_cons (globRef (by kernel_rfl) (by kernel_rfl)) (all_cons (globRef (by kernel_rfl) (by kernel_rfl)) (all_cons (globRef (by kernel_rfl) (by kernel_rfl)) (all_cons (globRef (by kernel_rfl) (by kernel_rfl)) (all_cons (globRef (by kernel_rfl) (by kernel_rfl)) (all_cons (globRef (by kernel_rfl) (by kernel_rfl)) (all_cons (globRef (by kernel_rfl) (by kernel_rfl)) (all_cons (globRef (by kernel_rfl) (by kernel_rfl)) (all_cons (globRef (by kernel_rfl) (by kernel_rfl)) (all_cons (globRef (by kernel_rfl) (by kernel_rfl)) (all_cons (globRef (by kernel_rfl) (by kernel_rfl)) (all_cons (globRef (by kernel_rfl) (by kernel_rfl)) (all_cons (globInt (t := _) (by kernel_rfl) (by rfl)) (all_cons (globInt (t := _) (by kernel_rfl) (by rfl)) (all_cons (globStr (t := _) (by kernel_rfl) (by rfl)) (all_cons (globStr (t := _) (by kernel_rfl) (by rfl)) (all_cons (globInt (t := _) (by kernel_rfl) (by rfl)) (all_cons (globBuiltin (by kernel_rfl) (by kernel_rfl) (by decide +kernel) (by kernel_rfl)) (all_cons (globBuiltin (by kernel_rfl) (by kernel_rfl) (by decide +kernel) (by kernel_rfl)) (all_cons (globBuiltin (by kernel_rfl) (by kernel_rfl) (by decide +kernel) (by kernel_rfl)) (all_cons (globBuiltin (by kernel_rfl) (by kernel_rfl) (by decide +kernel) (by kernel_rfl)) (all_cons (globBuiltin (by kernel_rfl) (by kernel_rfl) (by decide +kernel) (by kernel_rfl)) (all_cons (globBuiltin (by kernel_rfl) (by kernel_rfl) (by decide +kernel) (by kernel_rfl)) (all_cons (globBuiltin (by kernel_rfl) (by kernel_rfl) (by decide +kernel) (by kernel_rfl)) (all_cons (globBuiltin (by kernel_rfl) (by kernel_rfl) (by decide +kernel) (by kernel_rfl)) (all_cons (globBuiltin (by kernel_rfl) (by kernel_rfl) (by decide +kernel) (by kernel_rfl)) (all_cons (globBuiltin (by kernel_rfl) (by kernel_rfl) (by decide +kernel) (by kernel_rfl)) (all_nil)))))))))))))))))))))))))))))))))))))))
  (all_cons (⟨by kernel_rfl, by kernel_rfl, by kernel_rfl, by kernel_rfl⟩) (all_cons (⟨by kernel_rfl, by kernel_rfl, by kernel_rfl, by kernel_rfl⟩) (all_cons (⟨by kernel_rfl, by kernel_rfl, by kernel_rfl, by kernel_rfl⟩) (all_cons (⟨by kernel_rfl, by kernel_rfl, by kernel_rfl, by kernel_rfl⟩) (all_cons (⟨by kernel_rfl, by kernel_rfl, by kernel_rfl, by kernel_rfl⟩) (all_cons (⟨by kernel_rfl, by kernel_rfl, by kernel_rfl, by kernel_rfl⟩) (all_cons (⟨by kernel_rfl, by kernel_rfl, by kernel_rfl, by kernel_rfl⟩) (all_cons (⟨by kernel_rfl, by kernel_rfl, by kernel_rfl, by kernel_rfl⟩) (all_cons (⟨by kernel_rfl, by kernel_rfl, by kernel_rfl, by kernel_rfl⟩) (all_cons (⟨by kernel_rfl, by kernel_rfl, by kernel_rfl, by kernel_rfl⟩) (all_cons (⟨by kernel_rfl, by kernel_rfl, by kernel_rfl, by kernel_rfl⟩) (all_cons (⟨by kernel_rfl, by kernel_rfl, by kernel_rfl, by kernel_rfl⟩) (all_cons (⟨by kernel_rfl, by kernel_rfl, by kernel_rfl, by kernel_rfl⟩) (all_cons (⟨by kernel_rfl, by kernel_rfl, by kernel_rfl, by kernel_rfl⟩) (all_cons (⟨by kernel_rfl, by kernel_rfl, by kernel_rfl, by kernel_rfl⟩) (all_cons (⟨by kernel_rfl, by kernel_rfl, by kernel_rfl, by kernel_rfl⟩) (all_cons (⟨by kernel_rfl, by kernel_rfl, by kernel_rfl, by kernel_rfl⟩) (all_cons (⟨by kernel_rfl, by kernel_rfl, by kernel_rfl, by kernel_rfl⟩) (all_cons (⟨by kernel_rfl, by kernel_rfl, by kernel_rfl, by kernel_rfl⟩) (all_cons (⟨by kernel_rfl, by kernel_rfl, by kernel_rfl, by kernel_rfl⟩) (all_cons (⟨by kernel_rfl, by kernel_rfl, by kernel_rfl, by kernel_rfl⟩) (all_cons (⟨by kernel_rfl, by kernel_rfl, by kernel_rfl, by kernel_rfl⟩) (all_cons (⟨by kernel_rfl, by kernel_rfl, by kernel_rfl, by kernel_rfl⟩) (all_cons (⟨by kernel_rfl, by kernel_rfl, by kernel_rfl, by kernel_rfl⟩) (all_cons (⟨by kernel_rfl, by kernel_rfl, by kernel_rfl, by kernel_rfl⟩) (all_cons (⟨by kernel_rfl, by kernel_rfl, by kernel_rfl, by kernel_rfl⟩) (all_cons (⟨by kernel_rfl, by kernel_rfl, by kernel_rfl, by kernel_rfl⟩) (all_cons (⟨by kernel_rfl, by kernel_rfl, by kernel_rfl, by kernel_rfl⟩) (all_cons (⟨by kernel_rfl, by kernel_rfl, by kernel_rfl, by kernel_rfl⟩) (all_nil))))))))))))))))))))))))))))))
  (all_cons (⟨by kernel_rfl, by kernel_rfl, by kernel_rfl, by kernel_rfl, by kernel_rfl, by kernel_rfl⟩) (all_cons (⟨by kernel_rfl, by kernel_rfl, by kernel_rfl, by kernel_rfl, by kernel_rfl, by kernel_rfl⟩) (all_cons (⟨by kernel_rfl, by kernel_rfl, by kernel_rfl, by kernel_rfl, by kernel_rfl, by kernel_rfl⟩) (all_cons (⟨by kernel_rfl, by kernel_rfl, by kernel_rfl, by kernel_rfl, by kernel_rfl, by kernel_rfl⟩) (all_cons (⟨by kernel_rfl, by kernel_rfl, by kernel_rfl, by kernel_rfl, by kernel_rfl, by kernel_rfl⟩) (all_cons (⟨by kernel_rfl, by kernel_rfl, by kernel_rfl, by kernel_rfl, by kernel_rfl, by kernel_rfl⟩) (all_cons (⟨by kernel_rfl, by kernel_rfl, by kernel_rfl, by kernel_rfl, by kernel_rfl, by kernel_rfl⟩) (all_nil))))))))
  (all_cons (⟨by kernel_rfl, by kernel_rfl, by kernel_rfl, by kernel_rfl⟩) (all_cons (⟨by kernel_rfl, by kernel_rfl, by kernel_rfl, by kernel_rfl⟩) (all_cons (⟨by kernel_rfl, by kernel_rfl, by kernel_rfl, by kernel_rfl⟩) (all_nil))))
  (all_cons (by kernel_rfl) (all_cons (by kernel_rfl) (all_cons (by kernel_rfl) (all_cons (by kernel_rfl) (all_cons (by kernel_rfl) (all_cons (by kernel_rfl) (all_cons (by kernel_rfl) (all_cons (by kernel_rfl) (all_cons (by kernel_rfl) (all_cons (by kernel_rfl) (all_nil)))))))))))
variable {w : World} {mean : ExcName → Option Value} {mg mb : Str → Option Value} {sc : Scope} {ρ : Lo} {σ : Hp} {X : EX} {Q : MV → Hp → Prop} {n : Nat}
theorem g_is_whole : (cx w mean mg mb).glob ("is_whole" : Str) = some (.ref a_is_whole) := by kernel_rfl
theorem g_step : (cx w mean mg mb).glob ("step" : Str) = some (.ref a_step) := by kernel_rfl
theorem g_is_name : (cx w mean mg mb).glob ("is_name" : Str) = some (.ref a_is_name) := by kernel_rfl
theorem g_law_names_by : (cx w mean mg mb).glob ("_law_names_by" : Str) = some (.ref a_law_names_by) := by kernel_rfl
theorem g_law_refusal : (cx w mean mg mb).glob ("_law_refusal" : Str) = some (.ref a_law_refusal) := by kernel_rfl
theorem g_law_done : (cx w mean mg mb).glob ("_law_done" : Str) = some (.ref a_law_done) := by kernel_rfl
theorem g_law_is_share : (cx w mean mg mb).glob ("_law_is_share" : Str) = some (.ref a_law_is_share) := by kernel_rfl
theorem g_law_due : (cx w mean mg mb).glob ("_law_due" : Str) = some (.ref a_law_due) := by kernel_rfl
theorem g_law_wheel_good : (cx w mean mg mb).glob ("_law_wheel_good" : Str) = some (.ref a_law_wheel_good) := by kernel_rfl
theorem g_ShareError : (cx w mean mg mb).glob ("ShareError" : Str) = some (.ref a_ShareError) := by kernel_rfl
theorem g_BadShare : (cx w mean mg mb).glob ("BadShare" : Str) = some (.ref a_BadShare) := by kernel_rfl
theorem g_BadName : (cx w mean mg mb).glob ("BadName" : Str) = some (.ref a_BadName) := by kernel_rfl
theorem g_Twice : (cx w mean mg mb).glob ("Twice" : Str) = some (.ref a_Twice) := by kernel_rfl
theorem g_NoTeam : (cx w mean mg mb).glob ("NoTeam" : Str) = some (.ref a_NoTeam) := by kernel_rfl
theorem g_NoName : (cx w mean mg mb).glob ("NoName" : Str) = some (.ref a_NoName) := by kernel_rfl
theorem g_NotHand : (cx w mean mg mb).glob ("NotHand" : Str) = some (.ref a_NotHand) := by kernel_rfl
theorem g_NotEmpty : (cx w mean mg mb).glob ("NotEmpty" : Str) = some (.ref a_NotEmpty) := by kernel_rfl
theorem g_BadCount : (cx w mean mg mb).glob ("BadCount" : Str) = some (.ref a_BadCount) := by kernel_rfl
theorem g_NoDeed : (cx w mean mg mb).glob ("NoDeed" : Str) = some (.ref a_NoDeed) := by kernel_rfl
theorem g_Sharer : (cx w mean mg mb).glob ("Sharer" : Str) = some (.ref a_Sharer) := by kernel_rfl
theorem g_Wheel : (cx w mean mg mb).glob ("Wheel" : Str) = some (.ref a_Wheel) := by kernel_rfl
theorem g_House : (cx w mean mg mb).glob ("House" : Str) = some (.ref a_House) := by kernel_rfl
theorem g_ROUND : (cx w mean mg mb).glob ("ROUND" : Str) = some (.int 27720) := by kernel_rfl
theorem g_MOST : (cx w mean mg mb).glob ("MOST" : Str) = some (.int 12) := by kernel_rfl
theorem g_TOP : (cx w mean mg mb).glob ("TOP" : Str) = some (.str "") := by kernel_rfl
theorem g_LETTERS : (cx w mean mg mb).glob ("LETTERS" : Str) = some (.str "abcdefghijklmnopqrstuvwxyz") := by kernel_rfl
theorem g_MOST_LETTERS : (cx w mean mg mb).glob ("MOST_LETTERS" : Str) = some (.int 8) := by kernel_rfl
theorem g_ValueError : (cx w mean mg mb).glob ("ValueError" : Str) = some (.con (.type "ValueError")) := by kernel_rfl
theorem g_all : (cx w mean mg mb).glob ("all" : Str) = some (.con (.builtin "all")) := by kernel_rfl
theorem g_bool : (cx w mean mg mb).glob ("bool" : Str) = some (.con (.type "bool")) := by kernel_rfl
theorem g_int : (cx w mean mg mb).glob ("int" : Str) = some (.con (.type "int")) := by kernel_rfl
theorem g_isinstance : (cx w mean mg mb).glob ("isinstance" : Str) = some (.con (.builtin "isinstance")) := by kernel_rfl
theorem g_len : (cx w mean mg mb).glob ("len" : Str) = some (.con (.builtin "len")) := by kernel_rfl
theorem g_list : (cx w mean mg mb).glob ("list" : Str) = some (.con (.type "list")) := by kernel_rfl
theorem g_max : (cx w mean mg mb).glob ("max" : Str) = some (.con (.builtin "max")) := by kernel_rfl
theorem g_range : (cx w mean mg mb).glob ("range" : Str) = some (.con (.type "range")) := by kernel_rfl
theorem g_str : (cx w mean mg mb).glob ("str" : Str) = some (.con (.type "str")) := by kernel_rfl
theorem k_int_int : kitOne (cx w mean mg mb).K (.type "int") (.type "int") = some true := by kernel_rfl
theorem k_int_bool : kitOne (cx w mean mg mb).K (.type "int") (.type "bool") = some false := by kernel_rfl
theorem k_int_str : kitOne (cx w mean mg mb).K (.type "int") (.type "str") = some false := by kernel_rfl
theorem k_bool_int : kitOne (cx w mean mg mb).K (.type "bool") (.type "int") = some true := by kernel_rfl
theorem k_bool_bool : kitOne (cx w mean mg mb).K (.type "bool") (.type "bool") = some true := by kernel_rfl
theorem k_bool_str : kitOne (cx w mean mg mb).K (.type "bool") (.type "str") = some false := by kernel_rfl
theorem k_str_int : kitOne (cx w mean mg mb).K (.type "str") (.type "int") = some false := by kernel_rfl
theorem k_str_bool : kitOne (cx w mean mg mb).K (.type "str") (.type "bool") = some false := by kernel_rfl
theorem k_str_str : kitOne (cx w mean mg mb).K (.type "str") (.type "str") = some true := by kernel_rfl
theorem k_NoneType_int : kitOne (cx w mean mg mb).K (.type "NoneType") (.type "int") = some false := by kernel_rfl
theorem k_NoneType_bool : kitOne (cx w mean mg mb).K (.type "NoneType") (.type "bool") = some false := by kernel_rfl
theorem k_NoneType_str : kitOne (cx w mean mg mb).K (.type "NoneType") (.type "str") = some false := by kernel_rfl
theorem k_list_int : kitOne (cx w mean mg mb).K (.type "list") (.type "int") = some false := by kernel_rfl
theorem k_list_bool : kitOne (cx w mean mg mb).K (.type "list") (.type "bool") = some false := by kernel_rfl
theorem k_list_str : kitOne (cx w mean mg mb).K (.type "list") (.type "str") = some false := by kernel_rfl
theorem mi_Sharer : (cx w mean mg mb).init a_Sharer = some m_Sharer_init := by kernel_rfl
theorem mi_Wheel : (cx w mean mg mb).init a_Wheel = some m_Wheel_init := by kernel_rfl
theorem ms_Wheel_need : (cx w mean mg mb).meth a_Wheel ("need" : Str) = some m_Wheel_need := by kernel_rfl
theorem ms_Wheel_enter : (cx w mean mg mb).meth a_Wheel ("enter" : Str) = some m_Wheel_enter := by kernel_rfl
theorem ms_Wheel_leave : (cx w mean mg mb).meth a_Wheel ("leave" : Str) = some m_Wheel_leave := by kernel_rfl
theorem ms_Wheel_reshare : (cx w mean mg mb).meth a_Wheel ("reshare" : Str) = some m_Wheel_reshare := by kernel_rfl
theorem ms_Wheel_wake : (cx w mean mg mb).meth a_Wheel ("wake" : Str) = some m_Wheel_wake := by kernel_rfl
theorem ms_Wheel_rest : (cx w mean mg mb).meth a_Wheel ("rest" : Str) = some m_Wheel_rest := by kernel_rfl
theorem ms_Wheel_whose : (cx w mean mg mb).meth a_Wheel ("whose" : Str) = some m_Wheel_whose := by kernel_rfl
theorem ms_Wheel_turn : (cx w mean mg mb).meth a_Wheel ("turn" : Str) = some m_Wheel_turn := by kernel_rfl
theorem ms_Wheel_names : (cx w mean mg mb).meth a_Wheel ("names" : Str) = some m_Wheel_names := by kernel_rfl
theorem ms_Wheel_clock_of : (cx w mean mg mb).meth a_Wheel ("clock_of" : Str) = some m_Wheel_clock_of := by kernel_rfl
theorem ms_Wheel_share_of : (cx w mean mg mb).meth a_Wheel ("share_of" : Str) = some m_Wheel_share_of := by kernel_rfl
theorem ms_Wheel_is_ready : (cx w mean mg mb).meth a_Wheel ("is_ready" : Str) = some m_Wheel_is_ready := by kernel_rfl
theorem ms_Wheel_copied : (cx w mean mg mb).meth a_Wheel ("copied" : Str) = some m_Wheel_copied := by kernel_rfl
theorem mi_House : (cx w mean mg mb).init a_House = some m_House_init := by kernel_rfl
theorem ms_House_is_team : (cx w mean mg mb).meth a_House ("is_team" : Str) = some m_House_is_team := by kernel_rfl
theorem ms_House_need : (cx w mean mg mb).meth a_House ("need" : Str) = some m_House_need := by kernel_rfl
theorem ms_House_need_hand : (cx w mean mg mb).meth a_House ("need_hand" : Str) = some m_House_need_hand := by kernel_rfl
theorem ms_House_stand : (cx w mean mg mb).meth a_House ("stand" : Str) = some m_House_stand := by kernel_rfl
theorem ms_House_team : (cx w mean mg mb).meth a_House ("team" : Str) = some m_House_team := by kernel_rfl
theorem ms_House_hand : (cx w mean mg mb).meth a_House ("hand" : Str) = some m_House_hand := by kernel_rfl
theorem ms_House_leave : (cx w mean mg mb).meth a_House ("leave" : Str) = some m_House_leave := by kernel_rfl
theorem ms_House_reshare : (cx w mean mg mb).meth a_House ("reshare" : Str) = some m_House_reshare := by kernel_rfl
theorem ms_House_rest : (cx w mean mg mb).meth a_House ("rest" : Str) = some m_House_rest := by kernel_rfl
theorem ms_House_wheel_of : (cx w mean mg mb).meth a_House ("wheel_of" : Str) = some m_House_wheel_of := by kernel_rfl
theorem fn_is_whole : (cx w mean mg mb).fns a_is_whole = true := by kernel_rfl
theorem fn_step : (cx w mean mg mb).fns a_step = true := by kernel_rfl
theorem fn_is_name : (cx w mean mg mb).fns a_is_name = true := by kernel_rfl
theorem fn_law_names_by : (cx w mean mg mb).fns a_law_names_by = true := by kernel_rfl
theorem fn_law_refusal : (cx w mean mg mb).fns a_law_refusal = true := by kernel_rfl
theorem fn_law_done : (cx w mean mg mb).fns a_law_done = true := by kernel_rfl
theorem fn_law_is_share : (cx w mean mg mb).fns a_law_is_share = true := by kernel_rfl
theorem fn_law_due : (cx w mean mg mb).fns a_law_due = true := by kernel_rfl
theorem fn_law_wheel_good : (cx w mean mg mb).fns a_law_wheel_good = true := by kernel_rfl
local macro_rules | `(tactic| walk_at "lk") => `(tactic| first
  | (with_reducible exact Lo.put_self)
  | ((with_reducible refine Lo.put_ne ?_ ?_); (· kernel_rfl); walk_at "lk")
  | with_reducible assumption)
local macro_rules | `(tactic| walk_at "hp") => `(tactic| first
  | with_reducible assumption
  | (with_reducible exact Hp.self)
  | ((with_reducible refine Hp.new ?_ ?_); (· first | with_reducible assumption | exact Fresh.none (by with_reducible assumption)); walk_at "hp")
  | ((with_reducible apply Hp.tag'); (walk_at "hp"); (walk_at "hp"); (decide)))
local macro_rules | `(tactic| walk_at "ar") => `(tactic| first | with_reducible assumption | decide | omega)
structure Shr where
  name : Str
  a : Nat
  share : Int
  clock : Int
  ready : Bool
def Shr.obj (x : Shr) : MO := .inst a_Sharer [("share", .int x.share), ("clock", .int x.clock), ("ready", .bool x.ready)]
def wObj (past : Int) (d : Nat) : MO := .inst a_Wheel [("past", .int past), ("sharers", .ref d)]
def ents (l : List Shr) : List (Str × MV) := l.map fun x => (x.name, .ref x.a)
theorem getK_ents : ∀ {l : List Shr} {k : Nat} {x : Shr}, (l.map (·.name)).Nodup → l[k]? = some x → getK (ents l) x.name = some (.ref x.a)
  | [], k, x, _, h => by simp at h
  | y :: l, 0, x, _, h => by
    simp at h; subst h
    simp [getK, ents]
  | y :: l, k + 1, x, nd, h => by
    simp only [List.map_cons, List.nodup_cons] at nd
    simp only [List.getElem?_cons_succ] at h
    have hm : x.name ∈ l.map (·.name) := List.mem_map.mpr ⟨x, List.mem_of_getElem? h, rfl⟩
    have hne : y.name ≠ x.name := fun q => nd.1 (q ▸ hm)
    have ih := getK_ents nd.2 h
    simp only [getK, ents, List.map_cons, List.find?_cons, decide_eq_false hne] at ih ⊢
    exact ih
theorem getK_out {l : List Shr} {n : Str} (h : n ∉ l.map (·.name)) : getK (ents l) n = Option.none := by
  unfold getK ents
  rw [List.find?_eq_none.mpr]
  · rfl
  · intro p hp
    obtain ⟨x, hx, rfl⟩ := List.mem_map.mp hp
    simp only [decide_eq_true_eq]
    exact fun q => h (List.mem_map.mpr ⟨x, hx, q⟩)
theorem putK_out {l : List Shr} {n : Str} {v : MV} (h : n ∉ l.map (·.name)) : putK (ents l) n v = ents l ++ [(n, v)] := by
  unfold putK
  rw [if_neg]
  simp only [Bool.not_eq_true, List.any_eq_false, decide_eq_true_eq]
  intro p hp
  obtain ⟨x, hx, rfl⟩ := List.mem_map.mp hp
  exact fun q => h (List.mem_map.mpr ⟨x, hx, q⟩)
structure WheelD (σ : Hp) (W d t : Nat) (past : Int) (l : List Shr) : Prop where
  whl : σ W = some (t, wObj past d)
  dic : σ d = some (t, .sdict (ents l))
  shr : ∀ x ∈ l, σ x.a = some (t, x.obj)
  nn : (l.map (·.name)).Nodup
  na : (l.map (·.a)).Nodup
theorem WheelD.keep {σ σ' : Hp} {W d t : Nat} {past : Int} {l : List Shr} (h : WheelD σ W d t past l) (k : Kpt t σ σ') : WheelD σ' W d t past l :=
  ⟨k.at h.whl, k.at h.dic, fun x hx => k.at (h.shr x hx), h.nn, h.na⟩
theorem WheelD.past {σ : Hp} {W d t : Nat} {past past' : Int} {l : List Shr} (h : WheelD σ W d t past l) : WheelD (σ.put W t (wObj past' d)) W d t past' l where
  whl := Hp.self
  dic := Hp.ne (fun q => by have := h.dic; rw [q, h.whl] at this; simp [wObj] at this) h.dic
  shr := fun x hx => Hp.ne (fun q => by have := h.shr x hx; rw [q, h.whl] at this; simp [wObj, Shr.obj] at this) (h.shr x hx)
  nn := h.nn
  na := h.na
theorem map_set' {α β : Type} (f : α → β) (l : List α) (k : Nat) (y : α) : (l.set k y).map f = (l.map f).set k (f y) := List.map_set
theorem set_same {α : Type} : ∀ {l : List α} {k : Nat} {y : α}, l[k]? = some y → l.set k y = l
  | [], _, _, h => by simp at h
  | z :: l, 0, y, h => by simp at h; subst h; rfl
  | z :: l, k + 1, y, h => by
    simp only [List.getElem?_cons_succ] at h
    simp only [List.set_cons_succ, set_same h]
theorem map_set_same {α β : Type} (f : α → β) {l : List α} {k : Nat} {x y : α} (h : l[k]? = some x) (e : f y = f x) : (l.set k y).map f = l.map f := by
  rw [map_set', e]
  exact set_same (by rw [List.getElem?_map, h]; rfl)
theorem mem_set_or {α : Type} {l : List α} {k : Nat} {y z : α} (h : z ∈ l.set k y) : z = y ∨ ∃ j, j ≠ k ∧ l[j]? = some z := by
  obtain ⟨j, hj⟩ := List.mem_iff_getElem?.mp h
  rw [List.getElem?_set] at hj
  by_cases q : k = j
  · subst q
    simp only [if_true] at hj
    split at hj
    · exact .inl (Option.some.inj hj).symm
    · simp at hj
  · rw [if_neg q] at hj
    exact .inr ⟨j, fun e => q e.symm, hj⟩
theorem nodup_at {α β : Type} {f : α → β} : ∀ {l : List α} {j k : Nat} {x y : α}, (l.map f).Nodup → l[j]? = some x → l[k]? = some y → f x = f y → j = k
  | [], _, _, _, _, _, h, _, _ => by simp at h
  | z :: l, 0, 0, _, _, _, _, _, _ => rfl
  | z :: l, 0, k + 1, x, y, nd, hx, hy, e => by
    simp only [List.map_cons, List.nodup_cons] at nd
    simp at hx hy; subst hx
    exact absurd (List.mem_map.mpr ⟨y, List.mem_of_getElem? hy, e.symm⟩) nd.1
  | z :: l, j + 1, 0, x, y, nd, hx, hy, e => by
    simp only [List.map_cons, List.nodup_cons] at nd
    simp at hx hy; subst hy
    exact absurd (List.mem_map.mpr ⟨x, List.mem_of_getElem? hx, e⟩) nd.1
  | z :: l, j + 1, k + 1, x, y, nd, hx, hy, e => by
    simp only [List.map_cons, List.nodup_cons] at nd
    simp only [List.getElem?_cons_succ] at hx hy
    rw [nodup_at nd.2 hx hy e]
theorem WheelD.upd {σ : Hp} {W d t : Nat} {past : Int} {l : List Shr} (h : WheelD σ W d t past l) {k : Nat} {x y : Shr} (hk : l[k]? = some x) (hn : y.name = x.name) (ha : y.a = x.a) :
    WheelD (σ.put x.a t y.obj) W d t past (l.set k y) where
  whl := Hp.ne (fun q => by have := h.shr x (List.mem_of_getElem? hk); rw [← q, h.whl] at this; simp [wObj, Shr.obj] at this) h.whl
  dic := Hp.ne (fun q => by have := h.shr x (List.mem_of_getElem? hk); rw [← q, h.dic] at this; simp [Shr.obj] at this) (by
    rw [h.dic]
    have : ents (l.set k y) = ents l := map_set_same _ hk (by rw [hn, ha])
    rw [this])
  shr := fun z hz => by
    rcases mem_set_or hz with rfl | ⟨j, hj, hz⟩
    · rw [ha]; exact Hp.self
    · exact Hp.ne (fun q => hj (nodup_at h.na hz hk q)) (h.shr z (List.mem_of_getElem? hz))
  nn := by rw [map_set_same _ hk hn]; exact h.nn
  na := by rw [map_set_same _ hk ha]; exact h.na
theorem WheelD.enter {σ : Hp} {W d t : Nat} {past : Int} {l : List Shr} (h : WheelD σ W d t past l) {y : Shr} (hb : σ y.a = Option.none) (hn : y.name ∉ l.map (·.name)) :
    WheelD ((σ.put y.a t y.obj).put d t (.sdict (ents (l ++ [y])))) W d t past (l ++ [y]) where
  whl := Hp.ne (fun q => by have := h.dic; rw [← q, h.whl] at this; simp [wObj] at this) (Hp.new hb h.whl)
  dic := Hp.self
  shr := fun z hz => by
    rcases List.mem_append.mp hz with hz | hz
    · exact Hp.ne (fun q => by have := h.dic; rw [← q, h.shr z hz] at this; simp [Shr.obj] at this) (Hp.new hb (h.shr z hz))
    · simp at hz; subst hz
      exact Hp.ne (fun q => by have := h.dic; rw [← q, hb] at this; simp at this) Hp.self
  nn := by
    rw [List.map_append]
    refine List.nodup_append.mpr ⟨h.nn, by simp, fun a ha b hb q => ?_⟩
    simp at hb; subst hb; subst q; exact hn ha
  na := by
    rw [List.map_append]
    refine List.nodup_append.mpr ⟨h.na, by simp, fun a ha b hb' q => ?_⟩
    simp at hb'; subst hb'
    obtain ⟨z, hz, e⟩ := List.mem_map.mp ha
    have := h.shr z hz
    rw [e, q, hb] at this; simp at this
/-- whose turn it is -/
def better (x : Shr) : Option Shr → Bool
  | .none => true
  | some y => decide (x.clock < y.clock)
def pick : List Shr → Option Shr → Option Shr
  | [], f => f
  | x :: l, f => pick l (if x.ready && better x f then some x else f)
def whoV : Option Shr → MV
  | .none => .none
  | some x => .str x.name
def dealt (x : Shr) : Shr := { x with clock := x.clock + (27720 : Int).fdiv x.share }
theorem pick_none : ∀ {l : List Shr} {f : Option Shr}, (∀ x ∈ l, x.ready = false) → pick l f = f
  | [], _, _ => rfl
  | x :: l, f, h => by
    simp only [pick, h x (List.mem_cons_self ..), Bool.false_and]
    exact pick_none fun y hy => h y (List.mem_cons_of_mem _ hy)
theorem pick_only : ∀ {l : List Shr} {k : Nat} {x : Shr}, l[k]? = some x → x.ready = true → (∀ j y, l[j]? = some y → j ≠ k → y.ready = false) → pick l Option.none = some x
  | [], _, _, h, _, _ => by simp at h
  | y :: l, 0, x, h, hr, ho => by
    simp at h; subst h
    simp only [pick, hr, better, Bool.and_self]
    exact pick_none fun z hz => by
      obtain ⟨j, hj⟩ := List.mem_iff_getElem?.mp hz
      exact ho (j + 1) z (by simpa using hj) (by omega)
  | y :: l, k + 1, x, h, hr, ho => by
    have hy := ho 0 y (by simp) (by omega)
    simp only [pick, hy, Bool.false_and]
    exact pick_only (by simpa using h) hr fun j z hz hj => ho (j + 1) z (by simpa using hz) (by omega)
theorem is_whole_int {k lo hi : Int} (h : Q (.bool (decide (lo ≤ k) && decide (k ≤ hi))) σ) : WFn (cx w mean mg mb) ⟨n + 1, true, sc⟩ a_is_whole [.int k, .int lo, .int hi] ρ Q X σ := by
  refine WFn.fn3 (p1 := "thing") (p2 := "least") (p3 := "most") ⟨⟨_, _, _, _, _, _, _, _, _, _, _, _, _, (rfl : (Mine.hd.heap_39 w.params).lookup a_is_whole = _), by kernel_rfl, us3 fun _ _ _ => rfl⟩, by kernel_rfl⟩ ?_
  with_reducible refine WSs.cons ?_
  with_reducible refine WS.ite ?_
  with_reducible refine WT.bool ?_
  with_reducible refine WA.or ?_
  with_reducible refine WT.plain (by with_unfolding_all (first | exact fun _ _ => rfl | exact fun _ _ _ => rfl)) ?_
  with_reducible refine WE.call rfl rfl ?_
  with_reducible refine WE.globalA (by kernel_rfl) g_isinstance ?_
  with_reducible refine And.intro (Callee.con rfl) ?_
  with_reducible refine WEs.cons rfl ?_
  with_reducible refine WE.localA (by kernel_rfl) (by kernel_rfl) (by walk_at "lk") ?_
  with_reducible refine WEs.cons rfl ?_
  with_reducible refine WE.globalA (by kernel_rfl) g_bool ?_
  with_reducible refine WEs.nil ?_
  with_reducible refine WCall.isinstance (by first | with_reducible assumption | (with_reducible exact KindOf.int) | (with_reducible exact KindOf.str) | (with_reducible exact KindOf.bool) | (with_reducible exact KindOf.none) | ((with_reducible apply KindOf.list); walk_at "hp") | ((with_reducible apply KindOf.tuple); walk_at "hp")) k_int_bool ?_
  with_reducible refine WTr.bool ?_
  with_reducible refine if_ff ?_
  with_reducible refine WA.or ?_
  with_reducible refine WT.not ?_
  with_reducible refine WT.plain (by with_unfolding_all (first | exact fun _ _ => rfl | exact fun _ _ _ => rfl)) ?_
  with_reducible refine WE.call rfl rfl ?_
  with_reducible refine WE.globalA (by kernel_rfl) g_isinstance ?_
  with_reducible refine And.intro (Callee.con rfl) ?_
  with_reducible refine WEs.cons rfl ?_
  with_reducible refine WE.localA (by kernel_rfl) (by kernel_rfl) (by walk_at "lk") ?_
  with_reducible refine WEs.cons rfl ?_
  with_reducible refine WE.globalA (by kernel_rfl) g_int ?_
  with_reducible refine WEs.nil ?_
  with_reducible refine WCall.isinstance (by first | with_reducible assumption | (with_reducible exact KindOf.int) | (with_reducible exact KindOf.str) | (with_reducible exact KindOf.bool) | (with_reducible exact KindOf.none) | ((with_reducible apply KindOf.list); walk_at "hp") | ((with_reducible apply KindOf.tuple); walk_at "hp")) k_int_int ?_
  with_reducible refine WTr.bool ?_
  with_reducible refine if_nt ?_
  with_reducible refine WA.or_nil ?_
  with_reducible refine if_ff ?_
  with_reducible refine WSs.nil ?_
  with_reducible refine WSs.cons ?_
  with_reducible refine WS.ret ?_
  with_reducible refine WE.cmp2 rfl ?_
  with_reducible refine WE.localA (by kernel_rfl) (by kernel_rfl) (by walk_at "lk") ?_
  with_reducible refine WE.localA (by kernel_rfl) (by kernel_rfl) (by walk_at "lk") ?_
  with_reducible refine WC.le ?_
  with_reducible refine WTr.bool ?_
  by_cases h1 : lo ≤ k
  · rw [decide_eq_true h1] at h ⊢
    with_reducible refine if_tt ?_
    with_reducible refine WE.localA (by kernel_rfl) (by kernel_rfl) (by walk_at "lk") ?_
    with_reducible refine WC.le ?_
    exact h
  · rw [decide_eq_false h1] at h ⊢
    with_reducible refine if_ff ?_
    exact h
theorem step_ok {k : Int} (h0 : 1 ≤ k) (h1 : k ≤ 12) (h : Q (.int ((27720 : Int).fdiv k)) σ) : WFn (cx w mean mg mb) ⟨n + 2, true, sc⟩ a_step [.int k] ρ Q X σ := by
  refine WFn.fn1 (p1 := "share") ⟨⟨_, _, _, _, _, _, _, _, _, _, _, _, _, (rfl : (Mine.hd.heap_39 w.params).lookup a_step = _), by kernel_rfl, us1 fun _ => rfl⟩, by kernel_rfl⟩ ?_
  with_reducible refine WSs.cons ?_
  with_reducible refine WS.ite ?_
  with_reducible refine WT.not ?_
  with_reducible refine WT.plain (by with_unfolding_all (first | exact fun _ _ => rfl | exact fun _ _ _ => rfl)) ?_
  with_reducible refine WE.call rfl rfl ?_
  with_reducible refine WE.globalA (by kernel_rfl) g_is_whole ?_
  with_reducible refine And.intro (Callee.fn fn_is_whole) ?_
  with_reducible refine WEs.cons rfl ?_
  with_reducible refine WE.localA (by kernel_rfl) (by kernel_rfl) (by walk_at "lk") ?_
  with_reducible refine WEs.cons rfl ?_
  with_reducible refine WE.int ?_
  with_reducible refine WEs.cons rfl ?_
  with_reducible refine WE.globalA (by kernel_rfl) g_MOST ?_
  with_reducible refine WEs.nil ?_
  have e : (decide (1 ≤ k) && decide (k ≤ 12)) = true := by rw [decide_eq_true h0, decide_eq_true h1]; rfl
  refine WCall.of_fn (is_whole_int ?_)
  rw [e]
  with_reducible refine WTr.bool ?_
  with_reducible refine if_nt ?_
  with_reducible refine WSs.nil ?_
  with_reducible refine WSs.cons ?_
  with_reducible refine WS.ret ?_
  with_reducible refine WE.binop ?_
  with_reducible refine WE.globalA (by kernel_rfl) g_ROUND ?_
  with_reducible refine WE.localA (by kernel_rfl) (by kernel_rfl) (by walk_at "lk") ?_
  with_reducible refine WB.div (by walk_at "ar") (by walk_at "ar") ?_
  exact h
theorem make_sharer (t : Nat) {v1 v2 v3 : MV} (h : ∀ b, Fresh σ b → Q (.ref b) (σ.put b t (.inst a_Sharer [("share", v1), ("clock", v2), ("ready", v3)]))) :
    WFn (cx w mean mg mb) ⟨n + 2, true, sc⟩ a_Sharer [v1, v2, v3] ρ Q X σ := by
  refine WFn.make t mi_Sharer fun b hb hbn => ?_
  refine WFn.fn4 (p1 := "self") (p2 := "share") (p3 := "clock") (p4 := "ready") ⟨⟨_, _, _, _, _, _, _, _, _, _, _, _, _, (rfl : (Mine.hd.heap_39 w.params).lookup m_Sharer_init = _), by kernel_rfl, us4 fun _ _ _ _ => rfl⟩, by kernel_rfl⟩ ?_
  with_reducible refine WSs.cons ?_
  with_reducible refine WS.setAttr (by with_unfolding_all (first | exact fun _ _ => rfl | exact fun _ _ _ => rfl)) ?_
  with_reducible refine WE.localA (by kernel_rfl) (by kernel_rfl) (by walk_at "lk") ?_
  with_reducible refine WE.localA (by kernel_rfl) (by kernel_rfl) (by walk_at "lk") ?_
  refine WSet.inst' (fs' := [("share", v1)]) Hp.self (by kernel_rfl) (by kernel_rfl) (by simp) ?_
  with_reducible refine WSs.cons ?_
  with_reducible refine WS.setAttr (by with_unfolding_all (first | exact fun _ _ => rfl | exact fun _ _ _ => rfl)) ?_
  with_reducible refine WE.localA (by kernel_rfl) (by kernel_rfl) (by walk_at "lk") ?_
  with_reducible refine WE.localA (by kernel_rfl) (by kernel_rfl) (by walk_at "lk") ?_
  refine WSet.inst' (fs' := [("share", v1), ("clock", v2)]) Hp.self (by kernel_rfl) (by kernel_rfl) (by simp) ?_
  with_reducible refine WSs.cons ?_
  with_reducible refine WS.setAttr (by with_unfolding_all (first | exact fun _ _ => rfl | exact fun _ _ _ => rfl)) ?_
  with_reducible refine WE.localA (by kernel_rfl) (by kernel_rfl) (by walk_at "lk") ?_
  with_reducible refine WE.localA (by kernel_rfl) (by kernel_rfl) (by walk_at "lk") ?_
  refine WSet.inst' (fs' := [("share", v1), ("clock", v2), ("ready", v3)]) Hp.self (by kernel_rfl) (by kernel_rfl) (by simp) ?_
  with_reducible refine WSs.nil ?_
  refine ⟨rfl, ?_⟩
  rw [Hp.put_put, Hp.put_put, Hp.put_put]
  exact h b hb
theorem need_c {W d t k : Nat} {past : Int} {l : List Shr} {x : Shr} (h : WheelD σ W d t past l) (hk : l[k]? = some x) (hq : Q (.ref x.a) σ) : WFn (cx w mean mg mb) ⟨n + 1, true, sc⟩ m_Wheel_need [.ref W, .str x.name] ρ Q X σ := by
  have hW : σ W = some (t, .inst a_Wheel [("past", .int past), ("sharers", .ref d)]) := h.whl
  have hd := h.dic
  have hg : getK (ents l) x.name = some (.ref x.a) := getK_ents h.nn hk
  refine WFn.fn2 (p1 := "self") (p2 := "name") ⟨⟨_, _, _, _, _, _, _, _, _, _, _, _, _, (rfl : (Mine.hd.heap_39 w.params).lookup m_Wheel_need = _), by kernel_rfl, us2 fun _ _ => rfl⟩, by kernel_rfl⟩ ?_
  with_reducible refine WSs.cons ?_
  with_reducible refine WS.ite ?_
  with_reducible refine WT.bool ?_
  with_reducible refine WA.or ?_
  with_reducible refine WT.not ?_
  with_reducible refine WT.plain (by with_unfolding_all (first | exact fun _ _ => rfl | exact fun _ _ _ => rfl)) ?_
  with_reducible refine WE.call rfl rfl ?_
  with_reducible refine WE.globalA (by kernel_rfl) g_isinstance ?_
  with_reducible refine And.intro (Callee.con rfl) ?_
  with_reducible refine WEs.cons rfl ?_
  with_reducible refine WE.localA (by kernel_rfl) (by kernel_rfl) (by walk_at "lk") ?_
  with_reducible refine WEs.cons rfl ?_
  with_reducible refine WE.globalA (by kernel_rfl) g_str ?_
  with_reducible refine WEs.nil ?_
  with_reducible refine WCall.isinstance (by first | with_reducible assumption | (with_reducible exact KindOf.int) | (with_reducible exact KindOf.str) | (with_reducible exact KindOf.bool) | (with_reducible exact KindOf.none) | ((with_reducible apply KindOf.list); walk_at "hp") | ((with_reducible apply KindOf.tuple); walk_at "hp")) k_str_str ?_
  with_reducible refine WTr.bool ?_
  with_reducible refine if_nt ?_
  with_reducible refine WA.or ?_
  with_reducible refine WT.cmp1 rfl ?_
  with_reducible refine WE.localA (by kernel_rfl) (by kernel_rfl) (by walk_at "lk") ?_
  with_reducible refine WE.attr (by with_unfolding_all (first | exact fun _ _ => rfl | exact fun _ _ _ => rfl)) ?_
  with_reducible refine WE.localA (by kernel_rfl) (by kernel_rfl) (by walk_at "lk") ?_
  with_reducible refine WGet.inst (by walk_at "hp") (by kernel_rfl) (by repeat (first | (with_reducible exact lk_head) | (with_reducible refine lk_tail (by kernel_rfl) ?_))) (by with_unfolding_all rfl) ?_
  with_reducible refine WC.notInS_t (by walk_at "hp") (by with_reducible assumption) ?_
  with_reducible refine WTr.bool ?_
  with_reducible refine if_ff ?_
  with_reducible refine WA.or_nil ?_
  with_reducible refine if_ff ?_
  with_reducible refine WSs.nil ?_
  with_reducible refine WSs.cons ?_
  with_reducible refine WS.ret ?_
  with_reducible refine WE.sub ?_
  with_reducible refine WE.attr (by with_unfolding_all (first | exact fun _ _ => rfl | exact fun _ _ _ => rfl)) ?_
  with_reducible refine WE.localA (by kernel_rfl) (by kernel_rfl) (by walk_at "lk") ?_
  with_reducible refine WGet.inst (by walk_at "hp") (by kernel_rfl) (by repeat (first | (with_reducible exact lk_head) | (with_reducible refine lk_tail (by kernel_rfl) ?_))) (by with_unfolding_all rfl) ?_
  with_reducible refine WE.localA (by kernel_rfl) (by kernel_rfl) (by walk_at "lk") ?_
  with_reducible refine WSub.sdict (by with_unfolding_all (first | exact fun _ _ => rfl | exact fun _ _ _ => rfl)) (by walk_at "hp") (by with_reducible assumption) ?_
  exact hq
theorem enter_c {W d t : Nat} {past : Int} {l : List Shr} {nm : Str} {share : Int} (h : WheelD σ W d t past l) (hn : nm ∉ l.map (·.name)) (h0 : 1 ≤ share) (h1 : share ≤ 12) (hz : l.length ≤ 1000000)
    (hq : ∀ a σ', WheelD σ' W d t past (l ++ [⟨nm, a, share, 0, false⟩]) → Oth t σ σ' → Q .none σ') : WFn (cx w mean mg mb) ⟨n + 3, true, sc⟩ m_Wheel_enter [.ref W, .str nm, .int share] ρ Q X σ := by
  have hW : σ W = some (t, .inst a_Wheel [("past", .int past), ("sharers", .ref d)]) := h.whl
  have hd := h.dic
  have hg : getK (ents l) nm = Option.none := getK_out hn
  refine WFn.fn3 (p1 := "self") (p2 := "name") (p3 := "share") ⟨⟨_, _, _, _, _, _, _, _, _, _, _, _, _, (rfl : (Mine.hd.heap_39 w.params).lookup m_Wheel_enter = _), by kernel_rfl, us3 fun _ _ _ => rfl⟩, by kernel_rfl⟩ ?_
  with_reducible refine WSs.cons ?_
  with_reducible refine WS.ite ?_
  with_reducible refine WT.cmp1 rfl ?_
  with_reducible refine WE.localA (by kernel_rfl) (by kernel_rfl) (by walk_at "lk") ?_
  with_reducible refine WE.attr (by with_unfolding_all (first | exact fun _ _ => rfl | exact fun _ _ _ => rfl)) ?_
  with_reducible refine WE.localA (by kernel_rfl) (by kernel_rfl) (by walk_at "lk") ?_
  with_reducible refine WGet.inst (by walk_at "hp") (by kernel_rfl) (by repeat (first | (with_reducible exact lk_head) | (with_reducible refine lk_tail (by kernel_rfl) ?_))) (by with_unfolding_all rfl) ?_
  with_reducible refine WC.inS_f (by walk_at "hp") (by with_reducible assumption) ?_
  with_reducible refine WTr.bool ?_
  with_reducible refine if_ff ?_
  with_reducible refine WSs.nil ?_
  with_reducible refine WSs.cons ?_
  with_reducible refine WS.expr (by with_unfolding_all (first | exact fun _ _ => rfl | exact fun _ _ _ => rfl)) ?_
  with_reducible refine WE.call rfl rfl ?_
  with_reducible refine WE.globalA (by kernel_rfl) g_step ?_
  with_reducible refine And.intro (Callee.fn fn_step) ?_
  with_reducible refine WEs.cons rfl ?_
  with_reducible refine WE.localA (by kernel_rfl) (by kernel_rfl) (by walk_at "lk") ?_
  with_reducible refine WEs.nil ?_
  refine WCall.of_fn (step_ok h0 h1 ?_)
  with_reducible refine WSs.cons ?_
  with_reducible refine WS.setItem (by with_unfolding_all (first | exact fun _ _ => rfl | exact fun _ _ _ => rfl)) ?_
  with_reducible refine WE.call rfl rfl ?_
  with_reducible refine WE.globalA (by kernel_rfl) g_Sharer ?_
  with_reducible refine And.intro (Callee.cls mi_Sharer) ?_
  with_reducible refine WEs.cons rfl ?_
  with_reducible refine WE.localA (by kernel_rfl) (by kernel_rfl) (by walk_at "lk") ?_
  with_reducible refine WEs.cons rfl ?_
  with_reducible refine WE.int ?_
  with_reducible refine WEs.cons rfl ?_
  with_reducible refine WE.bool ?_
  with_reducible refine WEs.nil ?_
  refine WCall.of_fn (make_sharer t fun b hb => ?_)
  with_reducible refine WE.attr (by with_unfolding_all (first | exact fun _ _ => rfl | exact fun _ _ _ => rfl)) ?_
  with_reducible refine WE.localA (by kernel_rfl) (by kernel_rfl) (by walk_at "lk") ?_
  with_reducible refine WGet.inst (by walk_at "hp") (by kernel_rfl) (by repeat (first | (with_reducible exact lk_head) | (with_reducible refine lk_tail (by kernel_rfl) ?_))) (by with_unfolding_all rfl) ?_
  with_reducible refine WE.localA (by kernel_rfl) (by kernel_rfl) (by walk_at "lk") ?_
  refine WPut.sdict (by walk_at "hp") (by simpa [ents] using hz) ?_
  with_reducible refine WSs.nil ?_
  rw [putK_out hn]
  have hw := WheelD.enter h (y := ⟨nm, b, share, 0, false⟩) hb.none hn
  have e : ents (l ++ [⟨nm, b, share, 0, false⟩]) = ents l ++ [(nm, .ref b)] := by simp [ents]
  rw [e] at hw
  exact hq b _ hw (Oth.put (Oth.refl.new hb.none) (Hp.new hb.none hd))
theorem clock_c {W d t k : Nat} {past : Int} {l : List Shr} {x : Shr} (h : WheelD σ W d t past l) (hk : l[k]? = some x) (hq : Q (.int x.clock) σ) : WFn (cx w mean mg mb) ⟨n + 2, true, sc⟩ m_Wheel_clock_of [.ref W, .str x.name] ρ Q X σ := by
  have hW : σ W = some (t, .inst a_Wheel [("past", .int past), ("sharers", .ref d)]) := h.whl
  have hx : σ x.a = some (t, .inst a_Sharer [("share", .int x.share), ("clock", .int x.clock), ("ready", .bool x.ready)]) := h.shr x (List.mem_of_getElem? hk)
  refine WFn.fn2 (p1 := "self") (p2 := "name") ⟨⟨_, _, _, _, _, _, _, _, _, _, _, _, _, (rfl : (Mine.hd.heap_39 w.params).lookup m_Wheel_clock_of = _), by kernel_rfl, us2 fun _ _ => rfl⟩, by kernel_rfl⟩ ?_
  with_reducible refine WSs.cons ?_
  with_reducible refine WS.ret ?_
  with_reducible refine WE.attr (by with_unfolding_all (first | exact fun _ _ => rfl | exact fun _ _ _ => rfl)) ?_
  with_reducible refine WE.method (by with_unfolding_all (first | exact fun _ _ => rfl | exact fun _ _ _ => rfl)) rfl rfl rfl ?_
  with_reducible refine WE.localA (by kernel_rfl) (by kernel_rfl) (by walk_at "lk") ?_
  with_reducible refine WM.inst (by walk_at "hp") ms_Wheel_need (by kernel_rfl) ?_
  with_reducible refine And.intro (Callee.meth ms_Wheel_need) ?_
  with_reducible refine WEs.cons rfl ?_
  with_reducible refine WE.localA (by kernel_rfl) (by kernel_rfl) (by walk_at "lk") ?_
  with_reducible refine WEs.nil ?_
  refine WCall.of_fn (need_c h hk ?_)
  with_reducible refine WGet.inst (by walk_at "hp") (by kernel_rfl) (by repeat (first | (with_reducible exact lk_head) | (with_reducible refine lk_tail (by kernel_rfl) ?_))) (by with_unfolding_all rfl) ?_
  exact hq
theorem ready_c {W d t k : Nat} {past : Int} {l : List Shr} {x : Shr} (h : WheelD σ W d t past l) (hk : l[k]? = some x) (hq : Q (.bool x.ready) σ) : WFn (cx w mean mg mb) ⟨n + 2, true, sc⟩ m_Wheel_is_ready [.ref W, .str x.name] ρ Q X σ := by
  have hW : σ W = some (t, .inst a_Wheel [("past", .int past), ("sharers", .ref d)]) := h.whl
  have hx : σ x.a = some (t, .inst a_Sharer [("share", .int x.share), ("clock", .int x.clock), ("ready", .bool x.ready)]) := h.shr x (List.mem_of_getElem? hk)
  refine WFn.fn2 (p1 := "self") (p2 := "name") ⟨⟨_, _, _, _, _, _, _, _, _, _, _, _, _, (rfl : (Mine.hd.heap_39 w.params).lookup m_Wheel_is_ready = _), by kernel_rfl, us2 fun _ _ => rfl⟩, by kernel_rfl⟩ ?_
  with_reducible refine WSs.cons ?_
  with_reducible refine WS.ret ?_
  with_reducible refine WE.attr (by with_unfolding_all (first | exact fun _ _ => rfl | exact fun _ _ _ => rfl)) ?_
  with_reducible refine WE.method (by with_unfolding_all (first | exact fun _ _ => rfl | exact fun _ _ _ => rfl)) rfl rfl rfl ?_
  with_reducible refine WE.localA (by kernel_rfl) (by kernel_rfl) (by walk_at "lk") ?_
  with_reducible refine WM.inst (by walk_at "hp") ms_Wheel_need (by kernel_rfl) ?_
  with_reducible refine And.intro (Callee.meth ms_Wheel_need) ?_
  with_reducible refine WEs.cons rfl ?_
  with_reducible refine WE.localA (by kernel_rfl) (by kernel_rfl) (by walk_at "lk") ?_
  with_reducible refine WEs.nil ?_
  refine WCall.of_fn (need_c h hk ?_)
  with_reducible refine WGet.inst (by walk_at "hp") (by kernel_rfl) (by repeat (first | (with_reducible exact lk_head) | (with_reducible refine lk_tail (by kernel_rfl) ?_))) (by with_unfolding_all rfl) ?_
  exact hq
def woken (past : Int) (x : Shr) : Shr := if x.ready then x else { x with clock := (if past > x.clock then past else x.clock), ready := true }
theorem wake_c {W d t k : Nat} {past : Int} {l : List Shr} {x : Shr} (h : WheelD σ W d t past l) (hk : l[k]? = some x) (hq : ∀ σ', WheelD σ' W d t past (l.set k (woken past x)) → Oth t σ σ' → Q (.bool (!x.ready)) σ') :
    WFn (cx w mean mg mb) ⟨n + 2, true, sc⟩ m_Wheel_wake [.ref W, .str x.name] ρ Q X σ := by
  have hW : σ W = some (t, .inst a_Wheel [("past", .int past), ("sharers", .ref d)]) := h.whl
  have hx : σ x.a = some (t, .inst a_Sharer [("share", .int x.share), ("clock", .int x.clock), ("ready", .bool x.ready)]) := h.shr x (List.mem_of_getElem? hk)
  refine WFn.fn2 (p1 := "self") (p2 := "name") ⟨⟨_, _, _, _, _, _, _, _, _, _, _, _, _, (rfl : (Mine.hd.heap_39 w.params).lookup m_Wheel_wake = _), by kernel_rfl, us2 fun _ _ => rfl⟩, by kernel_rfl⟩ ?_
  with_reducible refine WSs.cons ?_
  with_reducible refine WS.assign (by with_unfolding_all (first | exact fun _ _ => rfl | exact fun _ _ _ => rfl)) ?_
  with_reducible refine WE.method (by with_unfolding_all (first | exact fun _ _ => rfl | exact fun _ _ _ => rfl)) rfl rfl rfl ?_
  with_reducible refine WE.localA (by kernel_rfl) (by kernel_rfl) (by walk_at "lk") ?_
  with_reducible refine WM.inst (by walk_at "hp") ms_Wheel_need (by kernel_rfl) ?_
  with_reducible refine And.intro (Callee.meth ms_Wheel_need) ?_
  with_reducible refine WEs.cons rfl ?_
  with_reducible refine WE.localA (by kernel_rfl) (by kernel_rfl) (by walk_at "lk") ?_
  with_reducible refine WEs.nil ?_
  refine WCall.of_fn (need_c h hk ?_)
  with_reducible refine WSt.localA (by kernel_rfl) ?_
  with_reducible refine WSs.cons ?_
  with_reducible refine WS.ite ?_
  with_reducible refine WT.plain (by with_unfolding_all (first | exact fun _ _ => rfl | exact fun _ _ _ => rfl)) ?_
  with_reducible refine WE.attr (by with_unfolding_all (first | exact fun _ _ => rfl | exact fun _ _ _ => rfl)) ?_
  with_reducible refine WE.localA (by kernel_rfl) (by kernel_rfl) (by walk_at "lk") ?_
  with_reducible refine WGet.inst (by walk_at "hp") (by kernel_rfl) (by repeat (first | (with_reducible exact lk_head) | (with_reducible refine lk_tail (by kernel_rfl) ?_))) (by with_unfolding_all rfl) ?_
  with_reducible refine WTr.bool ?_
  cases hr : x.ready
  · rw [hr] at hx hq
    with_reducible refine if_ff ?_
    with_reducible refine WSs.nil ?_
    with_reducible refine WSs.cons ?_
    with_reducible refine WS.setAttr (by with_unfolding_all (first | exact fun _ _ => rfl | exact fun _ _ _ => rfl)) ?_
    with_reducible refine WE.bool ?_
    with_reducible refine WE.localA (by kernel_rfl) (by kernel_rfl) (by walk_at "lk") ?_
    refine WSet.inst' (fs' := [("share", .int x.share), ("clock", .int x.clock), ("ready", .bool true)]) hx (by kernel_rfl) (by kernel_rfl) (by simp) ?_
    have h1 : WheelD (σ.put x.a t (.inst a_Sharer [("share", .int x.share), ("clock", .int x.clock), ("ready", .bool true)])) W d t past (l.set k { x with ready := true }) := h.upd (y := { x with ready := true }) hk rfl rfl
    have hW1 : (σ.put x.a t (.inst a_Sharer [("share", .int x.share), ("clock", .int x.clock), ("ready", .bool true)])) W = some (t, .inst a_Wheel [("past", .int past), ("sharers", .ref d)]) := h1.whl
    with_reducible refine WSs.cons ?_
    with_reducible refine WS.setAttr (by with_unfolding_all (first | exact fun _ _ => rfl | exact fun _ _ _ => rfl)) ?_
    with_reducible refine WE.call rfl rfl ?_
    with_reducible refine WE.globalA (by kernel_rfl) g_max ?_
    with_reducible refine And.intro (Callee.con rfl) ?_
    with_reducible refine WEs.cons rfl ?_
    with_reducible refine WE.attr (by with_unfolding_all (first | exact fun _ _ => rfl | exact fun _ _ _ => rfl)) ?_
    with_reducible refine WE.localA (by kernel_rfl) (by kernel_rfl) (by walk_at "lk") ?_
    with_reducible refine WGet.inst (by walk_at "hp") (by kernel_rfl) (by repeat (first | (with_reducible exact lk_head) | (with_reducible refine lk_tail (by kernel_rfl) ?_))) (by with_unfolding_all rfl) ?_
    with_reducible refine WEs.cons rfl ?_
    with_reducible refine WE.attr (by with_unfolding_all (first | exact fun _ _ => rfl | exact fun _ _ _ => rfl)) ?_
    with_reducible refine WE.localA (by kernel_rfl) (by kernel_rfl) (by walk_at "lk") ?_
    with_reducible refine WGet.inst (by walk_at "hp") (by kernel_rfl) (by repeat (first | (with_reducible exact lk_head) | (with_reducible refine lk_tail (by kernel_rfl) ?_))) (by with_unfolding_all rfl) ?_
    with_reducible refine WEs.nil ?_
    refine WCall.max2 rfl ?_
    with_reducible refine WE.localA (by kernel_rfl) (by kernel_rfl) (by walk_at "lk") ?_
    refine WSet.inst' (fs' := [("share", .int x.share), ("clock", .int (if past > x.clock then past else x.clock)), ("ready", .bool true)]) Hp.self (by kernel_rfl) (by kernel_rfl) (by simp) ?_
    with_reducible refine WSs.cons ?_
    with_reducible refine WS.ret ?_
    with_reducible refine WE.bool ?_
    rw [Hp.put_put]
    have h2 := h.upd (y := woken past x) hk (by simp [woken, hr]) (by simp [woken, hr])
    have e : (woken past x).obj = .inst a_Sharer [("share", .int x.share), ("clock", .int (if past > x.clock then past else x.clock)), ("ready", .bool true)] := by simp [woken, hr, Shr.obj]
    rw [e] at h2
    exact hq _ h2 (Oth.put Oth.refl hx)
  · rw [hr] at hx hq
    with_reducible refine if_tt ?_
    with_reducible refine WSs.cons ?_
    with_reducible refine WS.ret ?_
    with_reducible refine WE.bool ?_
    have e : woken past x = x := by simp [woken, hr]
    rw [e, set_same hk] at hq
    exact hq _ h Oth.refl
theorem rest_c {W d t k : Nat} {past : Int} {l : List Shr} {x : Shr} (h : WheelD σ W d t past l) (hk : l[k]? = some x) (hq : ∀ σ', WheelD σ' W d t past (l.set k { x with ready := false }) → Oth t σ σ' → Q (.bool x.ready) σ') :
    WFn (cx w mean mg mb) ⟨n + 2, true, sc⟩ m_Wheel_rest [.ref W, .str x.name] ρ Q X σ := by
  have hW : σ W = some (t, .inst a_Wheel [("past", .int past), ("sharers", .ref d)]) := h.whl
  have hx : σ x.a = some (t, .inst a_Sharer [("share", .int x.share), ("clock", .int x.clock), ("ready", .bool x.ready)]) := h.shr x (List.mem_of_getElem? hk)
  refine WFn.fn2 (p1 := "self") (p2 := "name") ⟨⟨_, _, _, _, _, _, _, _, _, _, _, _, _, (rfl : (Mine.hd.heap_39 w.params).lookup m_Wheel_rest = _), by kernel_rfl, us2 fun _ _ => rfl⟩, by kernel_rfl⟩ ?_
  with_reducible refine WSs.cons ?_
  with_reducible refine WS.assign (by with_unfolding_all (first | exact fun _ _ => rfl | exact fun _ _ _ => rfl)) ?_
  with_reducible refine WE.method (by with_unfolding_all (first | exact fun _ _ => rfl | exact fun _ _ _ => rfl)) rfl rfl rfl ?_
  with_reducible refine WE.localA (by kernel_rfl) (by kernel_rfl) (by walk_at "lk") ?_
  with_reducible refine WM.inst (by walk_at "hp") ms_Wheel_need (by kernel_rfl) ?_
  with_reducible refine And.intro (Callee.meth ms_Wheel_need) ?_
  with_reducible refine WEs.cons rfl ?_
  with_reducible refine WE.localA (by kernel_rfl) (by kernel_rfl) (by walk_at "lk") ?_
  with_reducible refine WEs.nil ?_
  refine WCall.of_fn (need_c h hk ?_)
  with_reducible refine WSt.localA (by kernel_rfl) ?_
  with_reducible refine WSs.cons ?_
  with_reducible refine WS.ite ?_
  with_reducible refine WT.not ?_
  with_reducible refine WT.plain (by with_unfolding_all (first | exact fun _ _ => rfl | exact fun _ _ _ => rfl)) ?_
  with_reducible refine WE.attr (by with_unfolding_all (first | exact fun _ _ => rfl | exact fun _ _ _ => rfl)) ?_
  with_reducible refine WE.localA (by kernel_rfl) (by kernel_rfl) (by walk_at "lk") ?_
  with_reducible refine WGet.inst (by walk_at "hp") (by kernel_rfl) (by repeat (first | (with_reducible exact lk_head) | (with_reducible refine lk_tail (by kernel_rfl) ?_))) (by with_unfolding_all rfl) ?_
  with_reducible refine WTr.bool ?_
  cases hr : x.ready
  · rw [hr] at hx hq
    with_reducible refine if_nf ?_
    with_reducible refine WSs.cons ?_
    with_reducible refine WS.ret ?_
    with_reducible refine WE.bool ?_
    have e : ({ x with ready := false } : Shr) = x := by cases x; simp at hr; subst hr; rfl
    rw [e, set_same hk] at hq
    exact hq _ h Oth.refl
  · rw [hr] at hx hq
    with_reducible refine if_nt ?_
    with_reducible refine WSs.nil ?_
    with_reducible refine WSs.cons ?_
    with_reducible refine WS.setAttr (by with_unfolding_all (first | exact fun _ _ => rfl | exact fun _ _ _ => rfl)) ?_
    with_reducible refine WE.bool ?_
    with_reducible refine WE.localA (by kernel_rfl) (by kernel_rfl) (by walk_at "lk") ?_
    refine WSet.inst' (fs' := [("share", .int x.share), ("clock", .int x.clock), ("ready", .bool false)]) hx (by kernel_rfl) (by kernel_rfl) (by simp) ?_
    with_reducible refine WSs.cons ?_
    with_reducible refine WS.ret ?_
    with_reducible refine WE.bool ?_
    exact hq _ (h.upd (y := { x with ready := false }) hk rfl rfl) (Oth.put Oth.refl hx)
theorem whose_c {W d t : Nat} {past : Int} {l : List Shr} (h : WheelD σ W d t past l) (hz : l.length ≤ 1000000) (hq : ∀ b, Fresh σ b → Q (whoV (pick l Option.none)) (σ.put b t (.list ((ents l).map fun p => .str p.1)))) :
    WFn (cx w mean mg mb) ⟨n + 1, true, sc⟩ m_Wheel_whose [.ref W] ρ Q X σ := by
  have hW : σ W = some (t, .inst a_Wheel [("past", .int past), ("sharers", .ref d)]) := h.whl
  have hd := h.dic
  refine WFn.fn1 (p1 := "self") ⟨⟨_, _, _, _, _, _, _, _, _, _, _, _, _, (rfl : (Mine.hd.heap_39 w.params).lookup m_Wheel_whose = _), by kernel_rfl, us1 fun _ => rfl⟩, by kernel_rfl⟩ ?_
  with_reducible refine WSs.cons ?_
  with_reducible refine WS.assign (by with_unfolding_all (first | exact fun _ _ => rfl | exact fun _ _ _ => rfl)) ?_
  with_reducible refine WE.none ?_
  with_reducible refine WSt.localA (by kernel_rfl) ?_
  with_reducible refine WSs.cons ?_
  with_reducible refine WS.for rfl (by with_unfolding_all (first | exact fun _ _ => rfl | exact fun _ _ _ => rfl)) ?_
  with_reducible refine WE.call rfl rfl ?_
  with_reducible refine WE.globalA (by kernel_rfl) g_list ?_
  with_reducible refine And.intro (Callee.con rfl) ?_
  with_reducible refine WEs.cons rfl ?_
  with_reducible refine WE.attr (by with_unfolding_all (first | exact fun _ _ => rfl | exact fun _ _ _ => rfl)) ?_
  with_reducible refine WE.localA (by kernel_rfl) (by kernel_rfl) (by walk_at "lk") ?_
  with_reducible refine WGet.inst (by walk_at "hp") (by kernel_rfl) (by repeat (first | (with_reducible exact lk_head) | (with_reducible refine lk_tail (by kernel_rfl) ?_))) (by with_unfolding_all rfl) ?_
  with_reducible refine WEs.nil ?_
  refine WCall.listKeys t rfl hd (by simpa [ents] using hz) fun b hb => ?_
  have hW' : (σ.put b t (.list ((ents l).map fun p => .str p.1))) W = _ := Hp.new hb.none hW
  have hd' : (σ.put b t (.list ((ents l).map fun p => .str p.1))) d = _ := Hp.new hb.none hd
  have hs' : ∀ x ∈ l, (σ.put b t (.list ((ents l).map fun p => .str p.1))) x.a = some (t, .inst a_Sharer [("share", .int x.share), ("clock", .int x.clock), ("ready", .bool x.ready)]) := fun x hx => Hp.new hb.none (h.shr x hx)
  have hb' : (σ.put b t (.list ((ents l).map fun p => .str p.1))) b = _ := Hp.self
  have hq' := hq b hb
  refine ⟨_, _, Iterable.list (ListAt.own hb'), ?_⟩
  generalize σ.put b t (.list ((ents l).map fun p => .str p.1)) = σ1 at hW' hd' hs' hb' hq' ⊢
  refine WFor.byIdx (fun j ρ' σ' => σ' = σ1 ∧ ρ' "self" = some (.ref W) ∧ ∃ f, ρ' "found" = some (whoV f) ∧ (∀ y, f = some y → ∃ k : Nat, l[k]? = some y) ∧ pick (l.drop j) f = pick l Option.none) ?_ ?_ ?_
  · exact ⟨rfl, by walk_at "lk", Option.none, by (change _ = some MV.none); walk_at "lk", (fun y hy => nomatch hy), rfl⟩
  · rintro j v ρ' σ' hv ⟨es, hself, f, hf, hfm, hp⟩
    subst es
    have hx : ∃ x, l[j]? = some x ∧ v = .str x.name := by
      simp only [ents, List.map_map, List.getElem?_map] at hv
      cases q : l[j]? with
      | none => rw [q] at hv; exact nomatch hv
      | some x => rw [q] at hv; exact ⟨x, rfl, (Option.some.inj hv).symm⟩
    obtain ⟨x, hx, rfl⟩ := hx
    have hdr : l.drop j = x :: l.drop (j + 1) := by
      obtain ⟨hlt, e⟩ := List.getElem?_eq_some_iff.mp hx
      rw [List.drop_eq_getElem_cons hlt, e]
    rw [hdr] at hp
    have hxo := hs' x (List.mem_of_getElem? hx)
    have hg : getK (ents l) x.name = some (.ref x.a) := getK_ents h.nn hx
    refine ⟨ListAt.own hb', ?_⟩
    cases hr : x.ready
    · rw [hr] at hxo
      simp only [pick, hr, Bool.false_and] at hp
      with_reducible refine WSt.localA (by kernel_rfl) ?_
      with_reducible refine WSs.cons ?_
      with_reducible refine WS.assign (by with_unfolding_all (first | exact fun _ _ => rfl | exact fun _ _ _ => rfl)) ?_
      with_reducible refine WE.sub ?_
      with_reducible refine WE.attr (by with_unfolding_all (first | exact fun _ _ => rfl | exact fun _ _ _ => rfl)) ?_
      with_reducible refine WE.localA (by kernel_rfl) (by kernel_rfl) (by walk_at "lk") ?_
      with_reducible refine WGet.inst (by walk_at "hp") (by kernel_rfl) (by repeat (first | (with_reducible exact lk_head) | (with_reducible refine lk_tail (by kernel_rfl) ?_))) (by with_unfolding_all rfl) ?_
      with_reducible refine WE.localA (by kernel_rfl) (by kernel_rfl) (by walk_at "lk") ?_
      with_reducible refine WSub.sdict (by with_unfolding_all (first | exact fun _ _ => rfl | exact fun _ _ _ => rfl)) (by walk_at "hp") (by with_reducible assumption) ?_
      with_reducible refine WSt.localA (by kernel_rfl) ?_
      with_reducible refine WSs.cons ?_
      with_reducible refine WS.ite ?_
      with_reducible refine WT.bool ?_
      with_reducible refine WA.and ?_
      with_reducible refine WT.plain (by with_unfolding_all (first | exact fun _ _ => rfl | exact fun _ _ _ => rfl)) ?_
      with_reducible refine WE.attr (by with_unfolding_all (first | exact fun _ _ => rfl | exact fun _ _ _ => rfl)) ?_
      with_reducible refine WE.localA (by kernel_rfl) (by kernel_rfl) (by walk_at "lk") ?_
      with_reducible refine WGet.inst (by walk_at "hp") (by kernel_rfl) (by repeat (first | (with_reducible exact lk_head) | (with_reducible refine lk_tail (by kernel_rfl) ?_))) (by with_unfolding_all rfl) ?_
      with_reducible refine WTr.bool ?_
      with_reducible refine if_ff ?_
      with_reducible refine if_ff ?_
      with_reducible refine WSs.nil ?_
      with_reducible refine WSs.nil ?_
      exact ⟨rfl, by walk_at "lk", f, by walk_at "lk", hfm, hp⟩
    · rw [hr] at hxo
      cases f with
      | none =>
        have hf' : ρ' "found" = some .none := hf
        clear hf
        simp only [pick, hr, better, Bool.and_self] at hp
        with_reducible refine WSt.localA (by kernel_rfl) ?_
        with_reducible refine WSs.cons ?_
        with_reducible refine WS.assign (by with_unfolding_all (first | exact fun _ _ => rfl | exact fun _ _ _ => rfl)) ?_
        with_reducible refine WE.sub ?_
        with_reducible refine WE.attr (by with_unfolding_all (first | exact fun _ _ => rfl | exact fun _ _ _ => rfl)) ?_
        with_reducible refine WE.localA (by kernel_rfl) (by kernel_rfl) (by walk_at "lk") ?_
        with_reducible refine WGet.inst (by walk_at "hp") (by kernel_rfl) (by repeat (first | (with_reducible exact lk_head) | (with_reducible refine lk_tail (by kernel_rfl) ?_))) (by with_unfolding_all rfl) ?_
        with_reducible refine WE.localA (by kernel_rfl) (by kernel_rfl) (by walk_at "lk") ?_
        with_reducible refine WSub.sdict (by with_unfolding_all (first | exact fun _ _ => rfl | exact fun _ _ _ => rfl)) (by walk_at "hp") (by with_reducible assumption) ?_
        with_reducible refine WSt.localA (by kernel_rfl) ?_
        with_reducible refine WSs.cons ?_
        with_reducible refine WS.ite ?_
        with_reducible refine WT.bool ?_
        with_reducible refine WA.and ?_
        with_reducible refine WT.plain (by with_unfolding_all (first | exact fun _ _ => rfl | exact fun _ _ _ => rfl)) ?_
        with_reducible refine WE.attr (by with_unfolding_all (first | exact fun _ _ => rfl | exact fun _ _ _ => rfl)) ?_
        with_reducible refine WE.localA (by kernel_rfl) (by kernel_rfl) (by walk_at "lk") ?_
        with_reducible refine WGet.inst (by walk_at "hp") (by kernel_rfl) (by repeat (first | (with_reducible exact lk_head) | (with_reducible refine lk_tail (by kernel_rfl) ?_))) (by with_unfolding_all rfl) ?_
        with_reducible refine WTr.bool ?_
        with_reducible refine if_tt ?_
        with_reducible refine WA.and ?_
        with_reducible refine WT.bool ?_
        with_reducible refine WA.or ?_
        with_reducible refine WT.cmp1 rfl ?_
        with_reducible refine WE.localA (by kernel_rfl) (by kernel_rfl) (by walk_at "lk") ?_
        with_reducible refine WE.none ?_
        with_reducible refine WC.isNN ?_
        with_reducible refine WTr.bool ?_
        with_reducible refine if_tt ?_
        with_reducible refine if_tt ?_
        with_reducible refine WA.and_nil ?_
        with_reducible refine if_tt ?_
        with_reducible refine WSs.cons ?_
        with_reducible refine WS.assign (by with_unfolding_all (first | exact fun _ _ => rfl | exact fun _ _ _ => rfl)) ?_
        with_reducible refine WE.localA (by kernel_rfl) (by kernel_rfl) (by walk_at "lk") ?_
        with_reducible refine WSt.localA (by kernel_rfl) ?_
        with_reducible refine WSs.nil ?_
        with_reducible refine WSs.nil ?_
        exact ⟨rfl, by walk_at "lk", some x, by (change _ = some (MV.str x.name)); walk_at "lk", fun y hy => by cases hy; exact ⟨j, hx⟩, hp⟩
      | some y =>
        obtain ⟨k, hk⟩ := hfm y rfl
        have hf' : ρ' "found" = some (.str y.name) := hf
        clear hf
        have hyo := hs' y (List.mem_of_getElem? hk)
        have hgy : getK (ents l) y.name = some (.ref y.a) := getK_ents h.nn hk
        simp only [pick, hr, better, Bool.true_and] at hp
        by_cases hlt : x.clock < y.clock
        · rw [decide_eq_true hlt] at hp
          with_reducible refine WSt.localA (by kernel_rfl) ?_
          with_reducible refine WSs.cons ?_
          with_reducible refine WS.assign (by with_unfolding_all (first | exact fun _ _ => rfl | exact fun _ _ _ => rfl)) ?_
          with_reducible refine WE.sub ?_
          with_reducible refine WE.attr (by with_unfolding_all (first | exact fun _ _ => rfl | exact fun _ _ _ => rfl)) ?_
          with_reducible refine WE.localA (by kernel_rfl) (by kernel_rfl) (by walk_at "lk") ?_
          with_reducible refine WGet.inst (by walk_at "hp") (by kernel_rfl) (by repeat (first | (with_reducible exact lk_head) | (with_reducible refine lk_tail (by kernel_rfl) ?_))) (by with_unfolding_all rfl) ?_
          with_reducible refine WE.localA (by kernel_rfl) (by kernel_rfl) (by walk_at "lk") ?_
          with_reducible refine WSub.sdict (by with_unfolding_all (first | exact fun _ _ => rfl | exact fun _ _ _ => rfl)) (by walk_at "hp") (by with_reducible assumption) ?_
          with_reducible refine WSt.localA (by kernel_rfl) ?_
          with_reducible refine WSs.cons ?_
          with_reducible refine WS.ite ?_
          with_reducible refine WT.bool ?_
          with_reducible refine WA.and ?_
          with_reducible refine WT.plain (by with_unfolding_all (first | exact fun _ _ => rfl | exact fun _ _ _ => rfl)) ?_
          with_reducible refine WE.attr (by with_unfolding_all (first | exact fun _ _ => rfl | exact fun _ _ _ => rfl)) ?_
          with_reducible refine WE.localA (by kernel_rfl) (by kernel_rfl) (by walk_at "lk") ?_
          with_reducible refine WGet.inst (by walk_at "hp") (by kernel_rfl) (by repeat (first | (with_reducible exact lk_head) | (with_reducible refine lk_tail (by kernel_rfl) ?_))) (by with_unfolding_all rfl) ?_
          with_reducible refine WTr.bool ?_
          with_reducible refine if_tt ?_
          with_reducible refine WA.and ?_
          with_reducible refine WT.bool ?_
          with_reducible refine WA.or ?_
          with_reducible refine WT.cmp1 rfl ?_
          with_reducible refine WE.localA (by kernel_rfl) (by kernel_rfl) (by walk_at "lk") ?_
          with_reducible refine WE.none ?_
          with_reducible refine WC.isNS ?_
          with_reducible refine WTr.bool ?_
          with_reducible refine if_ff ?_
          with_reducible refine WA.or ?_
          with_reducible refine WT.cmp1 rfl ?_
          with_reducible refine WE.attr (by with_unfolding_all (first | exact fun _ _ => rfl | exact fun _ _ _ => rfl)) ?_
          with_reducible refine WE.localA (by kernel_rfl) (by kernel_rfl) (by walk_at "lk") ?_
          with_reducible refine WGet.inst (by walk_at "hp") (by kernel_rfl) (by repeat (first | (with_reducible exact lk_head) | (with_reducible refine lk_tail (by kernel_rfl) ?_))) (by with_unfolding_all rfl) ?_
          with_reducible refine WE.attr (by with_unfolding_all (first | exact fun _ _ => rfl | exact fun _ _ _ => rfl)) ?_
          with_reducible refine WE.sub ?_
          with_reducible refine WE.attr (by with_unfolding_all (first | exact fun _ _ => rfl | exact fun _ _ _ => rfl)) ?_
          with_reducible refine WE.localA (by kernel_rfl) (by kernel_rfl) (by walk_at "lk") ?_
          with_reducible refine WGet.inst (by walk_at "hp") (by kernel_rfl) (by repeat (first | (with_reducible exact lk_head) | (with_reducible refine lk_tail (by kernel_rfl) ?_))) (by with_unfolding_all rfl) ?_
          with_reducible refine WE.localA (by kernel_rfl) (by kernel_rfl) (by walk_at "lk") ?_
          with_reducible refine WSub.sdict (by with_unfolding_all (first | exact fun _ _ => rfl | exact fun _ _ _ => rfl)) (by walk_at "hp") (by with_reducible assumption) ?_
          with_reducible refine WGet.inst (by walk_at "hp") (by kernel_rfl) (by repeat (first | (with_reducible exact lk_head) | (with_reducible refine lk_tail (by kernel_rfl) ?_))) (by with_unfolding_all rfl) ?_
          with_reducible refine WC.lt ?_
          with_reducible refine WTr.bool ?_
          with_reducible refine if_dt (by with_reducible assumption) ?_
          with_reducible refine if_tt ?_
          with_reducible refine WA.and_nil ?_
          with_reducible refine if_tt ?_
          with_reducible refine WSs.cons ?_
          with_reducible refine WS.assign (by with_unfolding_all (first | exact fun _ _ => rfl | exact fun _ _ _ => rfl)) ?_
          with_reducible refine WE.localA (by kernel_rfl) (by kernel_rfl) (by walk_at "lk") ?_
          with_reducible refine WSt.localA (by kernel_rfl) ?_
          with_reducible refine WSs.nil ?_
          with_reducible refine WSs.nil ?_
          exact ⟨rfl, by walk_at "lk", some x, by (change _ = some (MV.str x.name)); walk_at "lk", fun y hy => by cases hy; exact ⟨j, hx⟩, hp⟩
        · rw [decide_eq_false hlt] at hp
          with_reducible refine WSt.localA (by kernel_rfl) ?_
          with_reducible refine WSs.cons ?_
          with_reducible refine WS.assign (by with_unfolding_all (first | exact fun _ _ => rfl | exact fun _ _ _ => rfl)) ?_
          with_reducible refine WE.sub ?_
          with_reducible refine WE.attr (by with_unfolding_all (first | exact fun _ _ => rfl | exact fun _ _ _ => rfl)) ?_
          with_reducible refine WE.localA (by kernel_rfl) (by kernel_rfl) (by walk_at "lk") ?_
          with_reducible refine WGet.inst (by walk_at "hp") (by kernel_rfl) (by repeat (first | (with_reducible exact lk_head) | (with_reducible refine lk_tail (by kernel_rfl) ?_))) (by with_unfolding_all rfl) ?_
          with_reducible refine WE.localA (by kernel_rfl) (by kernel_rfl) (by walk_at "lk") ?_
          with_reducible refine WSub.sdict (by with_unfolding_all (first | exact fun _ _ => rfl | exact fun _ _ _ => rfl)) (by walk_at "hp") (by with_reducible assumption) ?_
          with_reducible refine WSt.localA (by kernel_rfl) ?_
          with_reducible refine WSs.cons ?_
          with_reducible refine WS.ite ?_
          with_reducible refine WT.bool ?_
          with_reducible refine WA.and ?_
          with_reducible refine WT.plain (by with_unfolding_all (first | exact fun _ _ => rfl | exact fun _ _ _ => rfl)) ?_
          with_reducible refine WE.attr (by with_unfolding_all (first | exact fun _ _ => rfl | exact fun _ _ _ => rfl)) ?_
          with_reducible refine WE.localA (by kernel_rfl) (by kernel_rfl) (by walk_at "lk") ?_
          with_reducible refine WGet.inst (by walk_at "hp") (by kernel_rfl) (by repeat (first | (with_reducible exact lk_head) | (with_reducible refine lk_tail (by kernel_rfl) ?_))) (by with_unfolding_all rfl) ?_
          with_reducible refine WTr.bool ?_
          with_reducible refine if_tt ?_
          with_reducible refine WA.and ?_
          with_reducible refine WT.bool ?_
          with_reducible refine WA.or ?_
          with_reducible refine WT.cmp1 rfl ?_
          with_reducible refine WE.localA (by kernel_rfl) (by kernel_rfl) (by walk_at "lk") ?_
          with_reducible refine WE.none ?_
          with_reducible refine WC.isNS ?_
          with_reducible refine WTr.bool ?_
          with_reducible refine if_ff ?_
          with_reducible refine WA.or ?_
          with_reducible refine WT.cmp1 rfl ?_
          with_reducible refine WE.attr (by with_unfolding_all (first | exact fun _ _ => rfl | exact fun _ _ _ => rfl)) ?_
          with_reducible refine WE.localA (by kernel_rfl) (by kernel_rfl) (by walk_at "lk") ?_
          with_reducible refine WGet.inst (by walk_at "hp") (by kernel_rfl) (by repeat (first | (with_reducible exact lk_head) | (with_reducible refine lk_tail (by kernel_rfl) ?_))) (by with_unfolding_all rfl) ?_
          with_reducible refine WE.attr (by with_unfolding_all (first | exact fun _ _ => rfl | exact fun _ _ _ => rfl)) ?_
          with_reducible refine WE.sub ?_
          with_reducible refine WE.attr (by with_unfolding_all (first | exact fun _ _ => rfl | exact fun _ _ _ => rfl)) ?_
          with_reducible refine WE.localA (by kernel_rfl) (by kernel_rfl) (by walk_at "lk") ?_
          with_reducible refine WGet.inst (by walk_at "hp") (by kernel_rfl) (by repeat (first | (with_reducible exact lk_head) | (with_reducible refine lk_tail (by kernel_rfl) ?_))) (by with_unfolding_all rfl) ?_
          with_reducible refine WE.localA (by kernel_rfl) (by kernel_rfl) (by walk_at "lk") ?_
          with_reducible refine WSub.sdict (by with_unfolding_all (first | exact fun _ _ => rfl | exact fun _ _ _ => rfl)) (by walk_at "hp") (by with_reducible assumption) ?_
          with_reducible refine WGet.inst (by walk_at "hp") (by kernel_rfl) (by repeat (first | (with_reducible exact lk_head) | (with_reducible refine lk_tail (by kernel_rfl) ?_))) (by with_unfolding_all rfl) ?_
          with_reducible refine WC.lt ?_
          with_reducible refine WTr.bool ?_
          with_reducible refine if_df (by with_reducible assumption) ?_
          with_reducible refine WA.or_nil ?_
          with_reducible refine if_ff ?_
          with_reducible refine if_ff ?_
          with_reducible refine WSs.nil ?_
          with_reducible refine WSs.nil ?_
          exact ⟨rfl, by walk_at "lk", some y, by (change _ = some (MV.str y.name)); walk_at "lk", hfm, hp⟩
  · rintro ρ' σ' ⟨es, hself, f, hf, hfm, hp⟩
    subst es
    refine ⟨ListAt.own hb', ?_⟩
    have e : pick l Option.none = f := by
      rw [← hp, List.drop_eq_nil_of_le (by simp [ents])]
      rfl
    rw [e] at hq'
    with_reducible refine WSs.cons ?_
    with_reducible refine WS.ret ?_
    with_reducible refine WE.localA (by kernel_rfl) (by kernel_rfl) (by walk_at "lk") ?_
    exact hq'
theorem turn_c {W d t k : Nat} {past : Int} {l : List Shr} {x : Shr} (h : WheelD σ W d t past l) (hz : l.length ≤ 1000000) (hk : l[k]? = some x) (hp : pick l Option.none = some x) (h0 : 1 ≤ x.share) (h1 : x.share ≤ 12)
    (hq : ∀ σ', WheelD σ' W d t x.clock (l.set k (dealt x)) → Oth t σ σ' → Q (.str x.name) σ') : WFn (cx w mean mg mb) ⟨n + 3, true, sc⟩ m_Wheel_turn [.ref W] ρ Q X σ := by
  have hW : σ W = some (t, .inst a_Wheel [("past", .int past), ("sharers", .ref d)]) := h.whl
  refine WFn.fn1 (p1 := "self") ⟨⟨_, _, _, _, _, _, _, _, _, _, _, _, _, (rfl : (Mine.hd.heap_39 w.params).lookup m_Wheel_turn = _), by kernel_rfl, us1 fun _ => rfl⟩, by kernel_rfl⟩ ?_
  with_reducible refine WSs.cons ?_
  with_reducible refine WS.assign (by with_unfolding_all (first | exact fun _ _ => rfl | exact fun _ _ _ => rfl)) ?_
  with_reducible refine WE.method (by with_unfolding_all (first | exact fun _ _ => rfl | exact fun _ _ _ => rfl)) rfl rfl rfl ?_
  with_reducible refine WE.localA (by kernel_rfl) (by kernel_rfl) (by walk_at "lk") ?_
  with_reducible refine WM.inst (by walk_at "hp") ms_Wheel_whose (by kernel_rfl) ?_
  with_reducible refine And.intro (Callee.meth ms_Wheel_whose) ?_
  with_reducible refine WEs.nil ?_
  refine WCall.of_fn (whose_c h hz fun b hb => ?_)
  have h' : WheelD (σ.put b t (.list ((ents l).map fun p => .str p.1))) W d t past l := h.keep (Kpt.new hb.none)
  have ho : Oth t σ (σ.put b t (.list ((ents l).map fun p => .str p.1))) := Oth.refl.new hb.none
  generalize σ.put b t (.list ((ents l).map fun p => .str p.1)) = σ1 at h' ho ⊢
  rw [hp]
  show WSt _ _ _ (.str x.name) _ _ _ _
  have hW' : σ1 W = some (t, .inst a_Wheel [("past", .int past), ("sharers", .ref d)]) := h'.whl
  have hd' := h'.dic
  have hxo : σ1 x.a = some (t, .inst a_Sharer [("share", .int x.share), ("clock", .int x.clock), ("ready", .bool x.ready)]) := h'.shr x (List.mem_of_getElem? hk)
  have hg : getK (ents l) x.name = some (.ref x.a) := getK_ents h.nn hk
  have hnn : (MV.str x.name).isNone = false := rfl
  with_reducible refine WSt.localA (by kernel_rfl) ?_
  with_reducible refine WSs.cons ?_
  with_reducible refine WS.ite ?_
  with_reducible refine WT.cmp1 rfl ?_
  with_reducible refine WE.localA (by kernel_rfl) (by kernel_rfl) (by walk_at "lk") ?_
  with_reducible refine WE.none ?_
  with_reducible refine WC.isNS ?_
  with_reducible refine WTr.bool ?_
  with_reducible refine if_ff ?_
  with_reducible refine WSs.nil ?_
  with_reducible refine WSs.cons ?_
  with_reducible refine WS.assign (by with_unfolding_all (first | exact fun _ _ => rfl | exact fun _ _ _ => rfl)) ?_
  with_reducible refine WE.sub ?_
  with_reducible refine WE.attr (by with_unfolding_all (first | exact fun _ _ => rfl | exact fun _ _ _ => rfl)) ?_
  with_reducible refine WE.localA (by kernel_rfl) (by kernel_rfl) (by walk_at "lk") ?_
  with_reducible refine WGet.inst (by walk_at "hp") (by kernel_rfl) (by repeat (first | (with_reducible exact lk_head) | (with_reducible refine lk_tail (by kernel_rfl) ?_))) (by with_unfolding_all rfl) ?_
  with_reducible refine WE.localA (by kernel_rfl) (by kernel_rfl) (by walk_at "lk") ?_
  with_reducible refine WSub.sdict (by with_unfolding_all (first | exact fun _ _ => rfl | exact fun _ _ _ => rfl)) (by walk_at "hp") (by with_reducible assumption) ?_
  with_reducible refine WSt.localA (by kernel_rfl) ?_
  with_reducible refine WSs.cons ?_
  with_reducible refine WS.setAttr (by with_unfolding_all (first | exact fun _ _ => rfl | exact fun _ _ _ => rfl)) ?_
  with_reducible refine WE.attr (by with_unfolding_all (first | exact fun _ _ => rfl | exact fun _ _ _ => rfl)) ?_
  with_reducible refine WE.localA (by kernel_rfl) (by kernel_rfl) (by walk_at "lk") ?_
  with_reducible refine WGet.inst (by walk_at "hp") (by kernel_rfl) (by repeat (first | (with_reducible exact lk_head) | (with_reducible refine lk_tail (by kernel_rfl) ?_))) (by with_unfolding_all rfl) ?_
  with_reducible refine WE.localA (by kernel_rfl) (by kernel_rfl) (by walk_at "lk") ?_
  refine WSet.inst' (fs' := [("past", .int x.clock), ("sharers", .ref d)]) hW' (by kernel_rfl) (by kernel_rfl) (by simp) ?_
  have h2 : WheelD (σ1.put W t (.inst a_Wheel [("past", .int x.clock), ("sharers", .ref d)])) W d t x.clock l := h'.past
  have ho2 : Oth t σ (σ1.put W t (.inst a_Wheel [("past", .int x.clock), ("sharers", .ref d)])) := Oth.put ho hW'
  generalize σ1.put W t (.inst a_Wheel [("past", .int x.clock), ("sharers", .ref d)]) = σ2 at h2 ho2 ⊢
  have hxo2 : σ2 x.a = some (t, .inst a_Sharer [("share", .int x.share), ("clock", .int x.clock), ("ready", .bool x.ready)]) := h2.shr x (List.mem_of_getElem? hk)
  with_reducible refine WSs.cons ?_
  with_reducible refine WS.augAttr ?_
  with_reducible refine WE.localA (by kernel_rfl) (by kernel_rfl) (by walk_at "lk") ?_
  with_reducible refine WGet.inst (by walk_at "hp") (by kernel_rfl) (by repeat (first | (with_reducible exact lk_head) | (with_reducible refine lk_tail (by kernel_rfl) ?_))) (by with_unfolding_all rfl) ?_
  with_reducible refine WE.call rfl rfl ?_
  with_reducible refine WE.globalA (by kernel_rfl) g_step ?_
  with_reducible refine And.intro (Callee.fn fn_step) ?_
  with_reducible refine WEs.cons rfl ?_
  with_reducible refine WE.attr (by with_unfolding_all (first | exact fun _ _ => rfl | exact fun _ _ _ => rfl)) ?_
  with_reducible refine WE.localA (by kernel_rfl) (by kernel_rfl) (by walk_at "lk") ?_
  with_reducible refine WGet.inst (by walk_at "hp") (by kernel_rfl) (by repeat (first | (with_reducible exact lk_head) | (with_reducible refine lk_tail (by kernel_rfl) ?_))) (by with_unfolding_all rfl) ?_
  with_reducible refine WEs.nil ?_
  refine WCall.of_fn (step_ok h0 h1 ?_)
  with_reducible refine WI.add ?_
  refine WSet.inst' (fs' := [("share", .int x.share), ("clock", .int (x.clock + (27720 : Int).fdiv x.share)), ("ready", .bool x.ready)]) hxo2 (by kernel_rfl) (by kernel_rfl) (by simp) ?_
  with_reducible refine WSs.cons ?_
  with_reducible refine WS.ret ?_
  with_reducible refine WE.localA (by kernel_rfl) (by kernel_rfl) (by walk_at "lk") ?_
  exact hq _ (h2.upd (y := dealt x) hk rfl rfl) (Oth.put ho2 hxo2)
theorem share_c {W d t k : Nat} {past : Int} {l : List Shr} {x : Shr} (h : WheelD σ W d t past l) (hk : l[k]? = some x) (hq : Q (.int x.share) σ) : WFn (cx w mean mg mb) ⟨n + 2, true, sc⟩ m_Wheel_share_of [.ref W, .str x.name] ρ Q X σ := by
  have hW : σ W = some (t, .inst a_Wheel [("past", .int past), ("sharers", .ref d)]) := h.whl
  have hx : σ x.a = some (t, .inst a_Sharer [("share", .int x.share), ("clock", .int x.clock), ("ready", .bool x.ready)]) := h.shr x (List.mem_of_getElem? hk)
  refine WFn.fn2 (p1 := "self") (p2 := "name") ⟨⟨_, _, _, _, _, _, _, _, _, _, _, _, _, (rfl : (Mine.hd.heap_39 w.params).lookup m_Wheel_share_of = _), by kernel_rfl, us2 fun _ _ => rfl⟩, by kernel_rfl⟩ ?_
  with_reducible refine WSs.cons ?_
  with_reducible refine WS.ret ?_
  with_reducible refine WE.attr (by with_unfolding_all (first | exact fun _ _ => rfl | exact fun _ _ _ => rfl)) ?_
  with_reducible refine WE.method (by with_unfolding_all (first | exact fun _ _ => rfl | exact fun _ _ _ => rfl)) rfl rfl rfl ?_
  with_reducible refine WE.localA (by kernel_rfl) (by kernel_rfl) (by walk_at "lk") ?_
  with_reducible refine WM.inst (by walk_at "hp") ms_Wheel_need (by kernel_rfl) ?_
  with_reducible refine And.intro (Callee.meth ms_Wheel_need) ?_
  with_reducible refine WEs.cons rfl ?_
  with_reducible refine WE.localA (by kernel_rfl) (by kernel_rfl) (by walk_at "lk") ?_
  with_reducible refine WEs.nil ?_
  refine WCall.of_fn (need_c h hk ?_)
  with_reducible refine WGet.inst (by walk_at "hp") (by kernel_rfl) (by repeat (first | (with_reducible exact lk_head) | (with_reducible refine lk_tail (by kernel_rfl) ?_))) (by with_unfolding_all rfl) ?_
  exact hq
theorem names_c (t' : Nat) {W d t : Nat} {past : Int} {l : List Shr} (h : WheelD σ W d t past l) (hz : l.length ≤ 1000000) (hq : ∀ b, Fresh σ b → Q (.ref b) (σ.put b t' (.list ((l.map (·.name)).map .str)))) : WFn (cx w mean mg mb) ⟨n + 1, true, sc⟩ m_Wheel_names [.ref W] ρ Q X σ := by
  have hW : σ W = some (t, .inst a_Wheel [("past", .int past), ("sharers", .ref d)]) := h.whl
  refine WFn.fn1 (p1 := "self") ⟨⟨_, _, _, _, _, _, _, _, _, _, _, _, _, (rfl : (Mine.hd.heap_39 w.params).lookup m_Wheel_names = _), by kernel_rfl, us1 fun _ => rfl⟩, by kernel_rfl⟩ ?_
  with_reducible refine WSs.cons ?_
  with_reducible refine WS.ret ?_
  with_reducible refine WE.call rfl rfl ?_
  with_reducible refine WE.globalA (by kernel_rfl) g_list ?_
  with_reducible refine And.intro (Callee.con rfl) ?_
  with_reducible refine WEs.cons rfl ?_
  with_reducible refine WE.attr (by with_unfolding_all (first | exact fun _ _ => rfl | exact fun _ _ _ => rfl)) ?_
  with_reducible refine WE.localA (by kernel_rfl) (by kernel_rfl) (by walk_at "lk") ?_
  with_reducible refine WGet.inst (by walk_at "hp") (by kernel_rfl) (by repeat (first | (with_reducible exact lk_head) | (with_reducible refine lk_tail (by kernel_rfl) ?_))) (by with_unfolding_all rfl) ?_
  with_reducible refine WEs.nil ?_
  refine WCall.listKeys t' rfl h.dic (by simpa [ents] using hz) fun b hb => ?_
  skip
  have e : (ents l).map (fun p => MV.str p.1) = (l.map (·.name)).map .str := by simp [ents]
  rw [e]
  exact hq b hb
theorem delK_ents {l : List Shr} {k : Nat} {x : Shr} (nd : (l.map (·.name)).Nodup) (hk : l[k]? = some x) : delK (ents l) x.name = ents (l.eraseIdx k) := by
  unfold delK ents
  induction l generalizing k with
  | nil => simp at hk
  | cons y l ih =>
    simp only [List.map_cons, List.nodup_cons] at nd
    cases k with
    | zero =>
      simp at hk; subst hk
      simp only [List.map_cons, List.eraseIdx_cons_zero]
      rw [List.filter_cons_of_neg (by simp)]
      refine List.filter_eq_self.mpr fun p hp => ?_
      obtain ⟨z, hz, rfl⟩ := List.mem_map.mp hp
      simp only [ne_eq, decide_eq_true_eq]
      exact fun q => nd.1 (List.mem_map.mpr ⟨z, hz, q⟩)
    | succ k =>
      simp only [List.getElem?_cons_succ] at hk
      simp only [List.map_cons, List.eraseIdx_cons_succ]
      rw [List.filter_cons_of_pos, ih nd.2 hk]
      simp only [ne_eq, decide_eq_true_eq]
      exact fun q => nd.1 (q ▸ List.mem_map.mpr ⟨x, List.mem_of_getElem? hk, rfl⟩)
theorem WheelD.leave {σ : Hp} {W d t : Nat} {past : Int} {l : List Shr} (h : WheelD σ W d t past l) (k : Nat) : WheelD (σ.put d t (.sdict (ents (l.eraseIdx k)))) W d t past (l.eraseIdx k) where
  whl := Hp.ne (fun q => by have := h.dic; rw [← q, h.whl] at this; simp [wObj] at this) h.whl
  dic := Hp.self
  shr := fun z hz => Hp.ne (fun q => by have := h.dic; rw [← q, h.shr z (List.mem_of_mem_eraseIdx hz)] at this; simp [Shr.obj] at this) (h.shr z (List.mem_of_mem_eraseIdx hz))
  nn := List.Nodup.sublist (List.Sublist.map _ (List.eraseIdx_sublist l k)) h.nn
  na := List.Nodup.sublist (List.Sublist.map _ (List.eraseIdx_sublist l k)) h.na
theorem leave_c {W d t k : Nat} {past : Int} {l : List Shr} {x : Shr} (h : WheelD σ W d t past l) (hz : l.length ≤ 1000000) (hk : l[k]? = some x) (hq : ∀ σ', WheelD σ' W d t past (l.eraseIdx k) → Oth t σ σ' → Q .none σ') :
    WFn (cx w mean mg mb) ⟨n + 2, true, sc⟩ m_Wheel_leave [.ref W, .str x.name] ρ Q X σ := by
  have hW : σ W = some (t, .inst a_Wheel [("past", .int past), ("sharers", .ref d)]) := h.whl
  refine WFn.fn2 (p1 := "self") (p2 := "name") ⟨⟨_, _, _, _, _, _, _, _, _, _, _, _, _, (rfl : (Mine.hd.heap_39 w.params).lookup m_Wheel_leave = _), by kernel_rfl, us2 fun _ _ => rfl⟩, by kernel_rfl⟩ ?_
  with_reducible refine WSs.cons ?_
  with_reducible refine WS.expr (by with_unfolding_all (first | exact fun _ _ => rfl | exact fun _ _ _ => rfl)) ?_
  with_reducible refine WE.method (by with_unfolding_all (first | exact fun _ _ => rfl | exact fun _ _ _ => rfl)) rfl rfl rfl ?_
  with_reducible refine WE.localA (by kernel_rfl) (by kernel_rfl) (by walk_at "lk") ?_
  with_reducible refine WM.inst (by walk_at "hp") ms_Wheel_need (by kernel_rfl) ?_
  with_reducible refine And.intro (Callee.meth ms_Wheel_need) ?_
  with_reducible refine WEs.cons rfl ?_
  with_reducible refine WE.localA (by kernel_rfl) (by kernel_rfl) (by walk_at "lk") ?_
  with_reducible refine WEs.nil ?_
  refine WCall.of_fn (need_c h hk ?_)
  with_reducible refine WSs.cons ?_
  with_reducible refine WS.expr (by with_unfolding_all (first | exact fun _ _ => rfl | exact fun _ _ _ => rfl)) ?_
  with_reducible refine WE.method (by with_unfolding_all (first | exact fun _ _ => rfl | exact fun _ _ _ => rfl)) rfl rfl rfl ?_
  with_reducible refine WE.attr (by with_unfolding_all (first | exact fun _ _ => rfl | exact fun _ _ _ => rfl)) ?_
  with_reducible refine WE.localA (by kernel_rfl) (by kernel_rfl) (by walk_at "lk") ?_
  with_reducible refine WGet.inst (by walk_at "hp") (by kernel_rfl) (by repeat (first | (with_reducible exact lk_head) | (with_reducible refine lk_tail (by kernel_rfl) ?_))) (by with_unfolding_all rfl) ?_
  refine WM.dictPop h.dic ?_
  with_reducible refine And.intro (Callee.con rfl) ?_
  with_reducible refine WEs.cons rfl ?_
  with_reducible refine WE.localA (by kernel_rfl) (by kernel_rfl) (by walk_at "lk") ?_
  with_reducible refine WEs.nil ?_
  refine WCall.dictPop h.dic (by simpa [ents] using hz) (getK_ents h.nn hk) ?_
  rw [delK_ents h.nn hk]
  with_reducible refine WSs.nil ?_
  exact hq _ (h.leave k) (Oth.put Oth.refl h.dic)
def shared (past share : Int) (x : Shr) : Shr := { x with share := share, clock := if past < x.clock then past + ((x.clock - past) * (27720 : Int).fdiv share).fdiv ((27720 : Int).fdiv x.share) else x.clock }
theorem stepB {k : Int} (h0 : 1 ≤ k) (h1 : k ≤ 12) : 2310 ≤ (27720 : Int).fdiv k ∧ (27720 : Int).fdiv k ≤ 27720 := by
  rw [Int.fdiv_eq_ediv_of_nonneg _ (le0 h0)]
  exact ⟨(Int.le_ediv_iff_mul_le (lt0 h0)).mpr (Int.le_trans (Int.mul_le_mul_of_nonneg_left h1 (by decide)) (by decide)), Int.ediv_le_self _ (by decide)⟩
theorem stepMul {a k : Int} (h0 : 1 ≤ k) (h1 : k ≤ 12) : IntMulOk a ((27720 : Int).fdiv k) :=
  IntMulOk.of_right (intBits_le_iff.mpr (by have := stepB h0 h1; omega))
theorem reshare_c {W d t k : Nat} {past share : Int} {l : List Shr} {x : Shr} (h : WheelD σ W d t past l) (hk : l[k]? = some x) (h0 : 1 ≤ share) (h1 : share ≤ 12) (g0 : 1 ≤ x.share) (g1 : x.share ≤ 12)
    (hq : ∀ σ', WheelD σ' W d t past (l.set k (shared past share x)) → Oth t σ σ' → Q .none σ') : WFn (cx w mean mg mb) ⟨n + 3, true, sc⟩ m_Wheel_reshare [.ref W, .str x.name, .int share] ρ Q X σ := by
  have hW : σ W = some (t, .inst a_Wheel [("past", .int past), ("sharers", .ref d)]) := h.whl
  have hx : σ x.a = some (t, .inst a_Sharer [("share", .int x.share), ("clock", .int x.clock), ("ready", .bool x.ready)]) := h.shr x (List.mem_of_getElem? hk)
  have z0 : (27720 : Int).fdiv x.share ≠ 0 := by have := stepB g0 g1; omega
  have z1 : ((27720 : Int).fdiv x.share).natAbs < 1073741824 := by have := stepB g0 g1; omega
  refine WFn.fn3 (p1 := "self") (p2 := "name") (p3 := "share") ⟨⟨_, _, _, _, _, _, _, _, _, _, _, _, _, (rfl : (Mine.hd.heap_39 w.params).lookup m_Wheel_reshare = _), by kernel_rfl, us3 fun _ _ _ => rfl⟩, by kernel_rfl⟩ ?_
  with_reducible refine WSs.cons ?_
  with_reducible refine WS.assign (by with_unfolding_all (first | exact fun _ _ => rfl | exact fun _ _ _ => rfl)) ?_
  with_reducible refine WE.method (by with_unfolding_all (first | exact fun _ _ => rfl | exact fun _ _ _ => rfl)) rfl rfl rfl ?_
  with_reducible refine WE.localA (by kernel_rfl) (by kernel_rfl) (by walk_at "lk") ?_
  with_reducible refine WM.inst (by walk_at "hp") ms_Wheel_need (by kernel_rfl) ?_
  with_reducible refine And.intro (Callee.meth ms_Wheel_need) ?_
  with_reducible refine WEs.cons rfl ?_
  with_reducible refine WE.localA (by kernel_rfl) (by kernel_rfl) (by walk_at "lk") ?_
  with_reducible refine WEs.nil ?_
  refine WCall.of_fn (need_c h hk ?_)
  with_reducible refine WSt.localA (by kernel_rfl) ?_
  with_reducible refine WSs.cons ?_
  with_reducible refine WS.assign (by with_unfolding_all (first | exact fun _ _ => rfl | exact fun _ _ _ => rfl)) ?_
  with_reducible refine WE.call rfl rfl ?_
  with_reducible refine WE.globalA (by kernel_rfl) g_step ?_
  with_reducible refine And.intro (Callee.fn fn_step) ?_
  with_reducible refine WEs.cons rfl ?_
  with_reducible refine WE.localA (by kernel_rfl) (by kernel_rfl) (by walk_at "lk") ?_
  with_reducible refine WEs.nil ?_
  refine WCall.of_fn (step_ok h0 h1 ?_)
  by_cases hlt : past < x.clock
  · skip
    with_reducible refine WSt.localA (by kernel_rfl) ?_
    with_reducible refine WSs.cons ?_
    with_reducible refine WS.ite ?_
    with_reducible refine WT.cmp1 rfl ?_
    with_reducible refine WE.attr (by with_unfolding_all (first | exact fun _ _ => rfl | exact fun _ _ _ => rfl)) ?_
    with_reducible refine WE.localA (by kernel_rfl) (by kernel_rfl) (by walk_at "lk") ?_
    with_reducible refine WGet.inst (by walk_at "hp") (by kernel_rfl) (by repeat (first | (with_reducible exact lk_head) | (with_reducible refine lk_tail (by kernel_rfl) ?_))) (by with_unfolding_all rfl) ?_
    with_reducible refine WE.attr (by with_unfolding_all (first | exact fun _ _ => rfl | exact fun _ _ _ => rfl)) ?_
    with_reducible refine WE.localA (by kernel_rfl) (by kernel_rfl) (by walk_at "lk") ?_
    with_reducible refine WGet.inst (by walk_at "hp") (by kernel_rfl) (by repeat (first | (with_reducible exact lk_head) | (with_reducible refine lk_tail (by kernel_rfl) ?_))) (by with_unfolding_all rfl) ?_
    with_reducible refine WC.gt ?_
    with_reducible refine WTr.bool ?_
    with_reducible refine if_dt (by with_reducible assumption) ?_
    with_reducible refine WSs.cons ?_
    with_reducible refine WS.setAttr (by with_unfolding_all (first | exact fun _ _ => rfl | exact fun _ _ _ => rfl)) ?_
    with_reducible refine WE.binop ?_
    with_reducible refine WE.attr (by with_unfolding_all (first | exact fun _ _ => rfl | exact fun _ _ _ => rfl)) ?_
    with_reducible refine WE.localA (by kernel_rfl) (by kernel_rfl) (by walk_at "lk") ?_
    with_reducible refine WGet.inst (by walk_at "hp") (by kernel_rfl) (by repeat (first | (with_reducible exact lk_head) | (with_reducible refine lk_tail (by kernel_rfl) ?_))) (by with_unfolding_all rfl) ?_
    with_reducible refine WE.binop ?_
    with_reducible refine WE.binop ?_
    with_reducible refine WE.binop ?_
    with_reducible refine WE.attr (by with_unfolding_all (first | exact fun _ _ => rfl | exact fun _ _ _ => rfl)) ?_
    with_reducible refine WE.localA (by kernel_rfl) (by kernel_rfl) (by walk_at "lk") ?_
    with_reducible refine WGet.inst (by walk_at "hp") (by kernel_rfl) (by repeat (first | (with_reducible exact lk_head) | (with_reducible refine lk_tail (by kernel_rfl) ?_))) (by with_unfolding_all rfl) ?_
    with_reducible refine WE.attr (by with_unfolding_all (first | exact fun _ _ => rfl | exact fun _ _ _ => rfl)) ?_
    with_reducible refine WE.localA (by kernel_rfl) (by kernel_rfl) (by walk_at "lk") ?_
    with_reducible refine WGet.inst (by walk_at "hp") (by kernel_rfl) (by repeat (first | (with_reducible exact lk_head) | (with_reducible refine lk_tail (by kernel_rfl) ?_))) (by with_unfolding_all rfl) ?_
    with_reducible refine WB.sub ?_
    with_reducible refine WE.localA (by kernel_rfl) (by kernel_rfl) (by walk_at "lk") ?_
    refine WB.mul (stepMul h0 h1) ?_
    with_reducible refine WE.call rfl rfl ?_
    with_reducible refine WE.globalA (by kernel_rfl) g_step ?_
    with_reducible refine And.intro (Callee.fn fn_step) ?_
    with_reducible refine WEs.cons rfl ?_
    with_reducible refine WE.attr (by with_unfolding_all (first | exact fun _ _ => rfl | exact fun _ _ _ => rfl)) ?_
    with_reducible refine WE.localA (by kernel_rfl) (by kernel_rfl) (by walk_at "lk") ?_
    with_reducible refine WGet.inst (by walk_at "hp") (by kernel_rfl) (by repeat (first | (with_reducible exact lk_head) | (with_reducible refine lk_tail (by kernel_rfl) ?_))) (by with_unfolding_all rfl) ?_
    with_reducible refine WEs.nil ?_
    refine WCall.of_fn (step_ok g0 g1 ?_)
    with_reducible refine WB.div (by walk_at "ar") (by walk_at "ar") ?_
    with_reducible refine WB.add ?_
    with_reducible refine WE.localA (by kernel_rfl) (by kernel_rfl) (by walk_at "lk") ?_
    refine WSet.inst' (fs' := [("share", .int x.share), ("clock", .int (past + ((x.clock - past) * (27720 : Int).fdiv share).fdiv ((27720 : Int).fdiv x.share))), ("ready", .bool x.ready)]) hx (by kernel_rfl) (by kernel_rfl) (by simp) ?_
    with_reducible refine WSs.nil ?_
    with_reducible refine WSs.cons ?_
    with_reducible refine WS.setAttr (by with_unfolding_all (first | exact fun _ _ => rfl | exact fun _ _ _ => rfl)) ?_
    with_reducible refine WE.localA (by kernel_rfl) (by kernel_rfl) (by walk_at "lk") ?_
    with_reducible refine WE.localA (by kernel_rfl) (by kernel_rfl) (by walk_at "lk") ?_
    refine WSet.inst' (fs' := [("share", .int share), ("clock", .int (past + ((x.clock - past) * (27720 : Int).fdiv share).fdiv ((27720 : Int).fdiv x.share))), ("ready", .bool x.ready)]) Hp.self (by kernel_rfl) (by kernel_rfl) (by simp) ?_
    with_reducible refine WSs.nil ?_
    rw [Hp.put_put]
    have h2 := h.upd (y := shared past share x) hk rfl rfl
    have e : (shared past share x).obj = .inst a_Sharer [("share", .int share), ("clock", .int (past + ((x.clock - past) * (27720 : Int).fdiv share).fdiv ((27720 : Int).fdiv x.share))), ("ready", .bool x.ready)] := by simp [shared, hlt, Shr.obj]
    rw [e] at h2
    exact hq _ h2 (Oth.put Oth.refl hx)
  · skip
    with_reducible refine WSt.localA (by kernel_rfl) ?_
    with_reducible refine WSs.cons ?_
    with_reducible refine WS.ite ?_
    with_reducible refine WT.cmp1 rfl ?_
    with_reducible refine WE.attr (by with_unfolding_all (first | exact fun _ _ => rfl | exact fun _ _ _ => rfl)) ?_
    with_reducible refine WE.localA (by kernel_rfl) (by kernel_rfl) (by walk_at "lk") ?_
    with_reducible refine WGet.inst (by walk_at "hp") (by kernel_rfl) (by repeat (first | (with_reducible exact lk_head) | (with_reducible refine lk_tail (by kernel_rfl) ?_))) (by with_unfolding_all rfl) ?_
    with_reducible refine WE.attr (by with_unfolding_all (first | exact fun _ _ => rfl | exact fun _ _ _ => rfl)) ?_
    with_reducible refine WE.localA (by kernel_rfl) (by kernel_rfl) (by walk_at "lk") ?_
    with_reducible refine WGet.inst (by walk_at "hp") (by kernel_rfl) (by repeat (first | (with_reducible exact lk_head) | (with_reducible refine lk_tail (by kernel_rfl) ?_))) (by with_unfolding_all rfl) ?_
    with_reducible refine WC.gt ?_
    with_reducible refine WTr.bool ?_
    with_reducible refine if_df (by with_reducible assumption) ?_
    with_reducible refine WSs.nil ?_
    with_reducible refine WSs.cons ?_
    with_reducible refine WS.setAttr (by with_unfolding_all (first | exact fun _ _ => rfl | exact fun _ _ _ => rfl)) ?_
    with_reducible refine WE.localA (by kernel_rfl) (by kernel_rfl) (by walk_at "lk") ?_
    with_reducible refine WE.localA (by kernel_rfl) (by kernel_rfl) (by walk_at "lk") ?_
    refine WSet.inst' (fs' := [("share", .int share), ("clock", .int x.clock), ("ready", .bool x.ready)]) hx (by kernel_rfl) (by kernel_rfl) (by simp) ?_
    with_reducible refine WSs.nil ?_
    have h2 := h.upd (y := shared past share x) hk rfl rfl
    have e : (shared past share x).obj = .inst a_Sharer [("share", .int share), ("clock", .int x.clock), ("ready", .bool x.ready)] := by simp [shared, hlt, Shr.obj]
    rw [e] at h2
    exact hq _ h2 (Oth.put Oth.refl hx)
theorem is_whole_not {v lo hi : MV} {t : Value} (k : KindOf σ v t) (h : kitOne (cx w mean mg mb).K t (.type "bool") = some true ∨ (kitOne (cx w mean mg mb).K t (.type "bool") = some false ∧ kitOne (cx w mean mg mb).K t (.type "int") = some false)) (hq : Q (.bool false) σ) : WFn (cx w mean mg mb) ⟨n + 1, true, sc⟩ a_is_whole [v, lo, hi] ρ Q X σ := by
  refine WFn.fn3 (p1 := "thing") (p2 := "least") (p3 := "most") ⟨⟨_, _, _, _, _, _, _, _, _, _, _, _, _, (rfl : (Mine.hd.heap_39 w.params).lookup a_is_whole = _), by kernel_rfl, us3 fun _ _ _ => rfl⟩, by kernel_rfl⟩ ?_
  rcases h with h | ⟨h, h'⟩
  · skip
    with_reducible refine WSs.cons ?_
    with_reducible refine WS.ite ?_
    with_reducible refine WT.bool ?_
    with_reducible refine WA.or ?_
    with_reducible refine WT.plain (by with_unfolding_all (first | exact fun _ _ => rfl | exact fun _ _ _ => rfl)) ?_
    with_reducible refine WE.call rfl rfl ?_
    with_reducible refine WE.globalA (by kernel_rfl) g_isinstance ?_
    with_reducible refine And.intro (Callee.con rfl) ?_
    with_reducible refine WEs.cons rfl ?_
    with_reducible refine WE.localA (by kernel_rfl) (by kernel_rfl) (by walk_at "lk") ?_
    with_reducible refine WEs.cons rfl ?_
    with_reducible refine WE.globalA (by kernel_rfl) g_bool ?_
    with_reducible refine WEs.nil ?_
    with_reducible refine WCall.isinstance (by first | with_reducible assumption | (with_reducible exact KindOf.int) | (with_reducible exact KindOf.str) | (with_reducible exact KindOf.bool) | (with_reducible exact KindOf.none) | ((with_reducible apply KindOf.list); walk_at "hp") | ((with_reducible apply KindOf.tuple); walk_at "hp")) (by with_reducible assumption) ?_
    with_reducible refine WTr.bool ?_
    with_reducible refine if_tt ?_
    with_reducible refine if_tt ?_
    with_reducible refine WSs.cons ?_
    with_reducible refine WS.ret ?_
    with_reducible refine WE.bool ?_
    exact hq
  · skip
    with_reducible refine WSs.cons ?_
    with_reducible refine WS.ite ?_
    with_reducible refine WT.bool ?_
    with_reducible refine WA.or ?_
    with_reducible refine WT.plain (by with_unfolding_all (first | exact fun _ _ => rfl | exact fun _ _ _ => rfl)) ?_
    with_reducible refine WE.call rfl rfl ?_
    with_reducible refine WE.globalA (by kernel_rfl) g_isinstance ?_
    with_reducible refine And.intro (Callee.con rfl) ?_
    with_reducible refine WEs.cons rfl ?_
    with_reducible refine WE.localA (by kernel_rfl) (by kernel_rfl) (by walk_at "lk") ?_
    with_reducible refine WEs.cons rfl ?_
    with_reducible refine WE.globalA (by kernel_rfl) g_bool ?_
    with_reducible refine WEs.nil ?_
    with_reducible refine WCall.isinstance (by first | with_reducible assumption | (with_reducible exact KindOf.int) | (with_reducible exact KindOf.str) | (with_reducible exact KindOf.bool) | (with_reducible exact KindOf.none) | ((with_reducible apply KindOf.list); walk_at "hp") | ((with_reducible apply KindOf.tuple); walk_at "hp")) (by with_reducible assumption) ?_
    with_reducible refine WTr.bool ?_
    with_reducible refine if_ff ?_
    with_reducible refine WA.or ?_
    with_reducible refine WT.not ?_
    with_reducible refine WT.plain (by with_unfolding_all (first | exact fun _ _ => rfl | exact fun _ _ _ => rfl)) ?_
    with_reducible refine WE.call rfl rfl ?_
    with_reducible refine WE.globalA (by kernel_rfl) g_isinstance ?_
    with_reducible refine And.intro (Callee.con rfl) ?_
    with_reducible refine WEs.cons rfl ?_
    with_reducible refine WE.localA (by kernel_rfl) (by kernel_rfl) (by walk_at "lk") ?_
    with_reducible refine WEs.cons rfl ?_
    with_reducible refine WE.globalA (by kernel_rfl) g_int ?_
    with_reducible refine WEs.nil ?_
    with_reducible refine WCall.isinstance (by first | with_reducible assumption | (with_reducible exact KindOf.int) | (with_reducible exact KindOf.str) | (with_reducible exact KindOf.bool) | (with_reducible exact KindOf.none) | ((with_reducible apply KindOf.list); walk_at "hp") | ((with_reducible apply KindOf.tuple); walk_at "hp")) (by with_reducible assumption) ?_
    with_reducible refine WTr.bool ?_
    with_reducible refine if_nf ?_
    with_reducible refine if_tt ?_
    with_reducible refine WSs.cons ?_
    with_reducible refine WS.ret ?_
    with_reducible refine WE.bool ?_
    exact hq
/-- no share -/
def NoShare (w : World) (mean : ExcName → Option Value) (mg mb : Str → Option Value) (σ : Hp) (v : MV) : Prop := ∀ (Q' : MV → Hp → Prop) (X' : EX) (ρ' : Lo) (sc' : Scope) (m : Nat), Q' (.bool false) σ → WFn (cx w mean mg mb) ⟨m + 1, true, sc'⟩ a_is_whole [v, .int 1, .int 12] ρ' Q' X' σ
theorem NoShare.none : NoShare w mean mg mb σ .none := fun _ _ _ _ _ h => is_whole_not .none (.inr ⟨k_NoneType_bool, k_NoneType_int⟩) h
theorem NoShare.bool {b : Bool} : NoShare w mean mg mb σ (.bool b) := fun _ _ _ _ _ h => is_whole_not .bool (.inl k_bool_bool) h
theorem NoShare.str {x : Str} : NoShare w mean mg mb σ (.str x) := fun _ _ _ _ _ h => is_whole_not .str (.inr ⟨k_str_bool, k_str_int⟩) h
theorem NoShare.int {k : Int} (h : ¬ (1 ≤ k ∧ k ≤ 12)) : NoShare w mean mg mb σ (.int k) := fun _ _ _ _ _ hq => is_whole_int (by
  have e : (decide (1 ≤ k) && decide (k ≤ 12)) = false := by rw [← Bool.decide_and]; exact decide_eq_false h
  rw [e]; exact hq)
theorem step_bad {v : MV} (hw : NoShare w mean mg mb σ v) (hx : ∀ e, X false a_BadShare e σ) : WFn (cx w mean mg mb) ⟨n + 2, true, sc⟩ a_step [v] ρ Q X σ := by
  refine WFn.fn1X (p1 := "share") ⟨⟨_, _, _, _, _, _, _, _, _, _, _, _, _, (rfl : (Mine.hd.heap_39 w.params).lookup a_step = _), by kernel_rfl, us1 fun _ => rfl⟩, by kernel_rfl⟩ ?_
  with_reducible refine WSs.cons ?_
  with_reducible refine WS.ite ?_
  with_reducible refine WT.not ?_
  with_reducible refine WT.plain (by with_unfolding_all (first | exact fun _ _ => rfl | exact fun _ _ _ => rfl)) ?_
  with_reducible refine WE.call rfl rfl ?_
  with_reducible refine WE.globalA (by kernel_rfl) g_is_whole ?_
  with_reducible refine And.intro (Callee.fn fn_is_whole) ?_
  with_reducible refine WEs.cons rfl ?_
  with_reducible refine WE.localA (by kernel_rfl) (by kernel_rfl) (by walk_at "lk") ?_
  with_reducible refine WEs.cons rfl ?_
  with_reducible refine WE.int ?_
  with_reducible refine WEs.cons rfl ?_
  with_reducible refine WE.globalA (by kernel_rfl) g_MOST ?_
  with_reducible refine WEs.nil ?_
  refine WCall.of_fn (hw _ _ _ _ _ ?_)
  with_reducible refine WTr.bool ?_
  with_reducible refine if_nf ?_
  with_reducible refine WSs.cons ?_
  refine WS.raise rfl (by kernel_rfl) g_BadShare (by kernel_rfl) PySem.F.excBase_ValueError PySem.F.excBase_ValueError (by kernel_rfl) rfl ?_
  with_reducible refine WE.str ?_
  exact hx
theorem reshare_bad {W d t k : Nat} {past : Int} {l : List Shr} {x : Shr} {v : MV} (h : WheelD σ W d t past l) (hk : l[k]? = some x) (hw : NoShare w mean mg mb σ v) (hx : ∀ e, X false a_BadShare e σ) : WFn (cx w mean mg mb) ⟨n + 3, true, sc⟩ m_Wheel_reshare [.ref W, .str x.name, v] ρ Q X σ := by
  have hW : σ W = some (t, .inst a_Wheel [("past", .int past), ("sharers", .ref d)]) := h.whl
  refine WFn.fn3X (p1 := "self") (p2 := "name") (p3 := "share") ⟨⟨_, _, _, _, _, _, _, _, _, _, _, _, _, (rfl : (Mine.hd.heap_39 w.params).lookup m_Wheel_reshare = _), by kernel_rfl, us3 fun _ _ _ => rfl⟩, by kernel_rfl⟩ ?_
  with_reducible refine WSs.cons ?_
  with_reducible refine WS.assign (by with_unfolding_all (first | exact fun _ _ => rfl | exact fun _ _ _ => rfl)) ?_
  with_reducible refine WE.method (by with_unfolding_all (first | exact fun _ _ => rfl | exact fun _ _ _ => rfl)) rfl rfl rfl ?_
  with_reducible refine WE.localA (by kernel_rfl) (by kernel_rfl) (by walk_at "lk") ?_
  with_reducible refine WM.inst (by walk_at "hp") ms_Wheel_need (by kernel_rfl) ?_
  with_reducible refine And.intro (Callee.meth ms_Wheel_need) ?_
  with_reducible refine WEs.cons rfl ?_
  with_reducible refine WE.localA (by kernel_rfl) (by kernel_rfl) (by walk_at "lk") ?_
  with_reducible refine WEs.nil ?_
  refine WCall.of_fn (need_c h hk ?_)
  with_reducible refine WSt.localA (by kernel_rfl) ?_
  with_reducible refine WSs.cons ?_
  with_reducible refine WS.assign (by with_unfolding_all (first | exact fun _ _ => rfl | exact fun _ _ _ => rfl)) ?_
  with_reducible refine WE.call rfl rfl ?_
  with_reducible refine WE.globalA (by kernel_rfl) g_step ?_
  with_reducible refine And.intro (Callee.fn fn_step) ?_
  with_reducible refine WEs.cons rfl ?_
  with_reducible refine WE.localA (by kernel_rfl) (by kernel_rfl) (by walk_at "lk") ?_
  with_reducible refine WEs.nil ?_
  refine WCall.of_fn (step_bad hw fun e => ?_)
  exact hx e
abbrev Extd (σ σ' : Hp) : Prop := ∀ a p, σ a = some p → σ' a = some p
def core (x : Shr) : Str × Int × Int × Bool := (x.name, x.share, x.clock, x.ready)
theorem core_name {l l' : List Shr} (h : l'.map core = l.map core) : l'.map (·.name) = l.map (·.name) := by
  have := congrArg (List.map (·.1)) h
  rw [List.map_map, List.map_map] at this
  exact this
theorem make_wheelF (t : Nat) (h : ∀ W d σ', σ W = Option.none → σ d = Option.none → WheelD σ' W d t 0 [] → Extd σ σ' → Q (.ref W) σ') :
    WFn (cx w mean mg mb) ⟨n + 2, true, sc⟩ a_Wheel [] ρ Q X σ := by
  refine WFn.make t mi_Wheel fun b hb hbn => ?_
  refine WFn.fn1 (p1 := "self") ⟨⟨_, _, _, _, _, _, _, _, _, _, _, _, _, (rfl : (Mine.hd.heap_39 w.params).lookup m_Wheel_init = _), by kernel_rfl, us1 fun _ => rfl⟩, by kernel_rfl⟩ ?_
  with_reducible refine WSs.cons ?_
  with_reducible refine WS.setAttr (by with_unfolding_all (first | exact fun _ _ => rfl | exact fun _ _ _ => rfl)) ?_
  with_reducible refine WE.int ?_
  with_reducible refine WE.localA (by kernel_rfl) (by kernel_rfl) (by walk_at "lk") ?_
  refine WSet.inst' (fs' := [("past", .int 0)]) Hp.self (by kernel_rfl) (by kernel_rfl) (by simp) ?_
  with_reducible refine WSs.cons ?_
  with_reducible refine WS.setAttr (by with_unfolding_all (first | exact fun _ _ => rfl | exact fun _ _ _ => rfl)) ?_
  refine WE.sdict t fun d hd => ?_
  with_reducible refine WE.localA (by kernel_rfl) (by kernel_rfl) (by walk_at "lk") ?_
  have hne : b ≠ d := fun q => by
    have := hd b _ Hp.self
    omega
  refine WSet.inst' (fs' := [("past", .int 0), ("sharers", .ref d)]) (Hp.ne hne Hp.self) (by kernel_rfl) (by kernel_rfl) (by simp) ?_
  with_reducible refine WSs.nil ?_
  refine ⟨rfl, ?_⟩
  rw [Hp.put_put] at hd
  have hdn : σ d = Option.none := by
    cases e : σ d with
    | none => rfl
    | some p =>
      have q : (σ.put b t (.inst a_Wheel [("past", .int 0)])) d = some p := Hp.new hbn e
      have q' := hd.none
      rw [q] at q'
      exact nomatch q'
  refine h b d _ hbn hdn ⟨Hp.self, Hp.ne (Ne.symm hne) Hp.self, (fun x hx => nomatch hx), List.nodup_nil, List.nodup_nil⟩ fun a p e => ?_
  have e1 : (σ.put b t (.inst a_Wheel [("past", .int 0)])) a = some p := Hp.new hbn e
  have e2 : a ≠ b := fun q => by rw [q, hbn] at e; exact nomatch e
  exact Hp.ne e2 (by rw [Hp.put_put]; exact Hp.new hd.none e1)
theorem Extd.put {σ σ' : Hp} {b t : Nat} {o : MO} (h : Extd σ σ') (hb : σ b = Option.none) : Extd σ (σ'.put b t o) := fun a p e => Hp.ne (fun q => by rw [q, hb] at e; exact nomatch e) (h a p e)
theorem Extd.new {σ σ' : Hp} {b t : Nat} {o : MO} (h : Extd σ σ') (hb : σ' b = Option.none) : Extd σ (σ'.put b t o) := fun a p e => Hp.new hb (h a p e)
theorem copied_c (t' : Nat) {W d t : Nat} {past : Int} {l : List Shr} (h : WheelD σ W d t past l) (hz : l.length ≤ 1000000)
    (hq : ∀ W' d' l' σ', σ W' = Option.none → WheelD σ' W' d' t' past l' → l'.map core = l.map core → Extd σ σ' → Q (.ref W') σ') : WFn (cx w mean mg mb) ⟨n + 3, true, sc⟩ m_Wheel_copied [.ref W] ρ Q X σ := by
  have hW : σ W = some (t, .inst a_Wheel [("past", .int past), ("sharers", .ref d)]) := h.whl
  have hd := h.dic
  refine WFn.fn1 (p1 := "self") ⟨⟨_, _, _, _, _, _, _, _, _, _, _, _, _, (rfl : (Mine.hd.heap_39 w.params).lookup m_Wheel_copied = _), by kernel_rfl, us1 fun _ => rfl⟩, by kernel_rfl⟩ ?_
  with_reducible refine WSs.cons ?_
  with_reducible refine WS.assign (by with_unfolding_all (first | exact fun _ _ => rfl | exact fun _ _ _ => rfl)) ?_
  with_reducible refine WE.call rfl rfl ?_
  with_reducible refine WE.globalA (by kernel_rfl) g_Wheel ?_
  with_reducible refine And.intro (Callee.cls mi_Wheel) ?_
  with_reducible refine WEs.nil ?_
  refine WCall.of_fn (make_wheelF t' fun W' d' σ1 n1 n2 hw1 e1 => ?_)
  have hW1 := e1 _ _ hW
  have hV1 : σ1 W' = some (t', .inst a_Wheel [("past", .int 0), ("sharers", .ref d')]) := hw1.whl
  with_reducible refine WSt.localA (by kernel_rfl) ?_
  with_reducible refine WSs.cons ?_
  with_reducible refine WS.setAttr (by with_unfolding_all (first | exact fun _ _ => rfl | exact fun _ _ _ => rfl)) ?_
  with_reducible refine WE.attr (by with_unfolding_all (first | exact fun _ _ => rfl | exact fun _ _ _ => rfl)) ?_
  with_reducible refine WE.localA (by kernel_rfl) (by kernel_rfl) (by walk_at "lk") ?_
  with_reducible refine WGet.inst (by walk_at "hp") (by kernel_rfl) (by repeat (first | (with_reducible exact lk_head) | (with_reducible refine lk_tail (by kernel_rfl) ?_))) (by with_unfolding_all rfl) ?_
  with_reducible refine WE.localA (by kernel_rfl) (by kernel_rfl) (by walk_at "lk") ?_
  refine WSet.inst' (fs' := [("past", .int past), ("sharers", .ref d')]) hV1 (by kernel_rfl) (by kernel_rfl) (by simp) ?_
  have hw2 := hw1.past (past' := past)
  have e2 : Extd σ (σ1.put W' t' (wObj past d')) := e1.put n1
  change WSs _ _ _ _ _ _ (σ1.put W' t' (wObj past d'))
  generalize σ1.put W' t' (wObj past d') = σ2 at hw2 e2 ⊢
  have hW2 := e2 _ _ hW
  have hd2 := e2 _ _ hd
  with_reducible refine WSs.cons ?_
  with_reducible refine WS.for rfl (by with_unfolding_all (first | exact fun _ _ => rfl | exact fun _ _ _ => rfl)) ?_
  with_reducible refine WE.call rfl rfl ?_
  with_reducible refine WE.globalA (by kernel_rfl) g_list ?_
  with_reducible refine And.intro (Callee.con rfl) ?_
  with_reducible refine WEs.cons rfl ?_
  with_reducible refine WE.attr (by with_unfolding_all (first | exact fun _ _ => rfl | exact fun _ _ _ => rfl)) ?_
  with_reducible refine WE.localA (by kernel_rfl) (by kernel_rfl) (by walk_at "lk") ?_
  with_reducible refine WGet.inst (by walk_at "hp") (by kernel_rfl) (by repeat (first | (with_reducible exact lk_head) | (with_reducible refine lk_tail (by kernel_rfl) ?_))) (by with_unfolding_all rfl) ?_
  with_reducible refine WEs.nil ?_
  refine WCall.listKeys (t' + 1) rfl hd2 (by simpa [ents] using hz) fun b hb => ?_
  refine ⟨_, _, Iterable.list (ListAt.own Hp.self), ?_⟩
  refine WFor.byIdx (fun j ρ' σ' => (∃ l', WheelD σ' W' d' t' past l' ∧ l'.map core = (l.take j).map core) ∧ Extd σ σ' ∧ σ' b = some (t' + 1, .list ((ents l).map fun p => .str p.1)) ∧ ρ' "self" = some (.ref W) ∧ ρ' "found" = some (.ref W')) ?_ ?_ ?_
  · exact ⟨⟨[], hw2.keep (Kpt.new hb.none), rfl⟩, e2.new hb.none, Hp.self, by walk_at "lk", by walk_at "lk"⟩
  · rintro j v ρ' σ' hv ⟨⟨l', hw, hc⟩, e, hb', r0, r1⟩
    have hx : ∃ x, l[j]? = some x ∧ v = .str x.name := by
      simp only [ents, List.map_map, List.getElem?_map] at hv
      cases q : l[j]? with
      | none => rw [q] at hv; exact nomatch hv
      | some x => rw [q] at hv; exact ⟨x, rfl, (Option.some.inj hv).symm⟩
    obtain ⟨x, hx, rfl⟩ := hx
    have hxo : σ' x.a = some (t, .inst a_Sharer [("share", .int x.share), ("clock", .int x.clock), ("ready", .bool x.ready)]) := e _ _ (h.shr x (List.mem_of_getElem? hx))
    have hg : getK (ents l) x.name = some (.ref x.a) := getK_ents h.nn hx
    have hW3 := e _ _ hW
    have hd3 := e _ _ hd
    have hV3 : σ' W' = some (t', .inst a_Wheel [("past", .int past), ("sharers", .ref d')]) := hw.whl
    have hD3 := hw.dic
    have hlt : j < l.length := (List.getElem?_eq_some_iff.mp hx).1
    have hl' : l'.length ≤ j := by have := congrArg List.length hc; rw [List.length_map, List.length_map] at this; rw [this]; exact List.length_take_le ..
    have hn : x.name ∉ l'.map (·.name) := by
      rw [core_name hc]
      intro q
      obtain ⟨y, hy, e'⟩ := List.mem_map.mp q
      obtain ⟨i, hi⟩ := List.mem_iff_getElem?.mp hy
      have hij : i < j := by
        have := (List.getElem?_eq_some_iff.mp hi).1
        exact Nat.lt_of_lt_of_le this (List.length_take_le ..)
      rw [List.getElem?_take, if_pos hij] at hi
      exact Nat.ne_of_lt hij (nodup_at h.nn hi hx e')
    refine ⟨ListAt.own hb', ?_⟩
    with_reducible refine WSt.localA (by kernel_rfl) ?_
    with_reducible refine WSs.cons ?_
    with_reducible refine WS.assign (by with_unfolding_all (first | exact fun _ _ => rfl | exact fun _ _ _ => rfl)) ?_
    with_reducible refine WE.sub ?_
    with_reducible refine WE.attr (by with_unfolding_all (first | exact fun _ _ => rfl | exact fun _ _ _ => rfl)) ?_
    with_reducible refine WE.localA (by kernel_rfl) (by kernel_rfl) (by walk_at "lk") ?_
    with_reducible refine WGet.inst (by walk_at "hp") (by kernel_rfl) (by repeat (first | (with_reducible exact lk_head) | (with_reducible refine lk_tail (by kernel_rfl) ?_))) (by with_unfolding_all rfl) ?_
    with_reducible refine WE.localA (by kernel_rfl) (by kernel_rfl) (by walk_at "lk") ?_
    with_reducible refine WSub.sdict (by with_unfolding_all (first | exact fun _ _ => rfl | exact fun _ _ _ => rfl)) (by walk_at "hp") (by with_reducible assumption) ?_
    with_reducible refine WSt.localA (by kernel_rfl) ?_
    with_reducible refine WSs.cons ?_
    with_reducible refine WS.setItem (by with_unfolding_all (first | exact fun _ _ => rfl | exact fun _ _ _ => rfl)) ?_
    with_reducible refine WE.call rfl rfl ?_
    with_reducible refine WE.globalA (by kernel_rfl) g_Sharer ?_
    with_reducible refine And.intro (Callee.cls mi_Sharer) ?_
    with_reducible refine WEs.cons rfl ?_
    with_reducible refine WE.attr (by with_unfolding_all (first | exact fun _ _ => rfl | exact fun _ _ _ => rfl)) ?_
    with_reducible refine WE.localA (by kernel_rfl) (by kernel_rfl) (by walk_at "lk") ?_
    with_reducible refine WGet.inst (by walk_at "hp") (by kernel_rfl) (by repeat (first | (with_reducible exact lk_head) | (with_reducible refine lk_tail (by kernel_rfl) ?_))) (by with_unfolding_all rfl) ?_
    with_reducible refine WEs.cons rfl ?_
    with_reducible refine WE.attr (by with_unfolding_all (first | exact fun _ _ => rfl | exact fun _ _ _ => rfl)) ?_
    with_reducible refine WE.localA (by kernel_rfl) (by kernel_rfl) (by walk_at "lk") ?_
    with_reducible refine WGet.inst (by walk_at "hp") (by kernel_rfl) (by repeat (first | (with_reducible exact lk_head) | (with_reducible refine lk_tail (by kernel_rfl) ?_))) (by with_unfolding_all rfl) ?_
    with_reducible refine WEs.cons rfl ?_
    with_reducible refine WE.attr (by with_unfolding_all (first | exact fun _ _ => rfl | exact fun _ _ _ => rfl)) ?_
    with_reducible refine WE.localA (by kernel_rfl) (by kernel_rfl) (by walk_at "lk") ?_
    with_reducible refine WGet.inst (by walk_at "hp") (by kernel_rfl) (by repeat (first | (with_reducible exact lk_head) | (with_reducible refine lk_tail (by kernel_rfl) ?_))) (by with_unfolding_all rfl) ?_
    with_reducible refine WEs.nil ?_
    refine WCall.of_fn (make_sharer t' fun a ha => ?_)
    with_reducible refine WE.attr (by with_unfolding_all (first | exact fun _ _ => rfl | exact fun _ _ _ => rfl)) ?_
    with_reducible refine WE.localA (by kernel_rfl) (by kernel_rfl) (by walk_at "lk") ?_
    with_reducible refine WGet.inst (by walk_at "hp") (by kernel_rfl) (by repeat (first | (with_reducible exact lk_head) | (with_reducible refine lk_tail (by kernel_rfl) ?_))) (by with_unfolding_all rfl) ?_
    with_reducible refine WE.localA (by kernel_rfl) (by kernel_rfl) (by walk_at "lk") ?_
    refine WPut.sdict (by walk_at "hp") (by simp [ents]; omega) ?_
    with_reducible refine WSs.nil ?_
    rw [putK_out hn]
    have hw' := WheelD.enter hw (y := { x with a := a }) ha.none hn
    have ee : ents (l' ++ [{ x with a := a }]) = ents l' ++ [(x.name, .ref a)] := by simp [ents]
    rw [ee] at hw'
    exact ⟨⟨_, hw', by rw [List.map_append, hc, List.take_add_one, hx, List.map_append]; rfl⟩, (e.new ha.none).put n2, Hp.tag (Hp.new ha.none hD3) (by omega) (Hp.new ha.none hb'), by walk_at "lk", by walk_at "lk"⟩
  · rintro ρ' σ' ⟨⟨l', hw, hc⟩, e, hb', r0, r1⟩
    refine ⟨ListAt.own hb', ?_⟩
    with_reducible refine WSs.cons ?_
    with_reducible refine WS.ret ?_
    with_reducible refine WE.localA (by kernel_rfl) (by kernel_rfl) (by walk_at "lk") ?_
    exact hq W' d' l' σ' n1 hw (by rw [hc, List.take_of_length_le (by simp [ents])]) e
structure Team where
  name : Str
  W : Nat
  d : Nat
  g : Nat
  past : Int
  l : List Shr
def tents (tm : List Team) : List (Str × MV) := tm.map fun t => (t.name, .ref t.W)
def aents (ab : List (Str × Str)) : List (Str × MV) := ab.map fun p => (p.1, .str p.2)
theorem getK_mem {es : List (Str × MV)} {k : Str} {v : MV} (nd : (es.map (·.1)).Nodup) (h : (k, v) ∈ es) : getK es k = some v := by
  induction es with
  | nil => exact nomatch h
  | cons p es ih =>
    rw [List.map_cons, List.nodup_cons] at nd
    unfold getK
    rw [List.find?_cons]
    rcases List.mem_cons.mp h with q | q
    · subst q; simp
    · have hne : p.1 ≠ k := fun e => nd.1 (by rw [e]; exact List.mem_map.mpr ⟨_, q, rfl⟩)
      rw [decide_eq_false hne]
      exact ih nd.2 q
theorem getK_no {es : List (Str × MV)} {k : Str} (h : k ∉ es.map (·.1)) : getK es k = Option.none := by
  unfold getK
  rw [List.find?_eq_none.mpr]
  · rfl
  · intro p hp
    simp only [decide_eq_true_eq]
    exact fun q => h (List.mem_map.mpr ⟨p, hp, q⟩)
theorem putK_no {es : List (Str × MV)} {k : Str} {v : MV} (h : k ∉ es.map (·.1)) : putK es k v = es ++ [(k, v)] := by
  unfold putK
  rw [if_neg]
  simp only [Bool.not_eq_true, List.any_eq_false, decide_eq_true_eq]
  exact fun p hp q => h (List.mem_map.mpr ⟨p, hp, q⟩)
structure HouseD (σ : Hp) (H dw da : Nat) (tm : List Team) (ab : List (Str × Str)) : Prop where
  hou : σ H = some (1, .inst a_House [("wheels", .ref dw), ("above", .ref da)])
  dws : σ dw = some (1, .sdict (tents tm))
  das : σ da = some (1, .sdict (aents ab))
  whl : ∀ t ∈ tm, WheelD σ t.W t.d t.g t.past t.l
  tn : (tm.map (·.name)).Nodup
  tg : (tm.map (·.g)).Nodup
  gg : ∀ t ∈ tm, 100 ≤ t.g
  an : (ab.map (·.1)).Nodup
  dd : dw ≠ da
/-- what a house's deed may change: its own things and the wheels -/
def KpH (σ σ' : Hp) : Prop := ∀ a t o, σ a = some (t, o) → t ≠ 1 → t < 100 → σ' a = some (t, o)
theorem HouseD.keep {σ σ' : Hp} {H dw da : Nat} {tm : List Team} {ab : List (Str × Str)} (h : HouseD σ H dw da tm ab) (k1 : ∀ {a o}, σ a = some (1, o) → σ' a = some (1, o)) (k : ∀ {a t o}, σ a = some (t, o) → 100 ≤ t → σ' a = some (t, o)) : HouseD σ' H dw da tm ab :=
  ⟨k1 h.hou, k1 h.dws, k1 h.das, fun t ht => (h.whl t ht).keep ⟨fun a o e => k e (h.gg t ht)⟩, h.tn, h.tg, h.gg, h.an, h.dd⟩
theorem tents_names (tm : List Team) : (tents tm).map (·.1) = tm.map (·.name) := by unfold tents; rw [List.map_map]; rfl
theorem aents_names (ab : List (Str × Str)) : (aents ab).map (·.1) = ab.map (·.1) := by unfold aents; rw [List.map_map]; rfl
theorem getK_team {σ : Hp} {H dw da : Nat} {tm : List Team} {ab : List (Str × Str)} (h : HouseD σ H dw da tm ab) {t : Team} (ht : t ∈ tm) : getK (tents tm) t.name = some (.ref t.W) :=
  getK_mem (by rw [tents_names]; exact h.tn) (List.mem_map.mpr ⟨t, ht, rfl⟩)
theorem getK_noteam {tm : List Team} {nm : Str} (h : nm ∉ tm.map (·.name)) : getK (tents tm) nm = Option.none := getK_no (by rw [tents_names]; exact h)
theorem getK_above {σ : Hp} {H dw da : Nat} {tm : List Team} {ab : List (Str × Str)} (h : HouseD σ H dw da tm ab) {nm up : Str} (ht : (nm, up) ∈ ab) : getK (aents ab) nm = some (.str up) :=
  getK_mem (by rw [aents_names]; exact h.an) (List.mem_map.mpr ⟨_, ht, rfl⟩)
theorem getK_noabove {ab : List (Str × Str)} {nm : Str} (h : nm ∉ ab.map (·.1)) : getK (aents ab) nm = Option.none := getK_no (by rw [aents_names]; exact h)
/-- one wheel has changed -/
theorem HouseD.one {σ σ' : Hp} {H dw da k : Nat} {tm : List Team} {ab : List (Str × Str)} {t t' : Team} (h : HouseD σ H dw da tm ab) (hk : tm[k]? = some t) (hn : t'.name = t.name) (hW : t'.W = t.W) (hg : t'.g = t.g) (hw : WheelD σ' t'.W t'.d t'.g t'.past t'.l) (o : Oth t.g σ σ') : HouseD σ' H dw da (tm.set k t') ab := by
  have g1 : 1 ≠ t.g := by have := h.gg t (List.mem_of_getElem? hk); omega
  refine ⟨o.at h.hou g1, ?_, o.at h.das g1, fun u hu => ?_, ?_, ?_, fun u hu => ?_, h.an, h.dd⟩
  · have : tents (tm.set k t') = tents tm := map_set_same _ hk (by rw [hn, hW])
    rw [this]; exact o.at h.dws g1
  · rcases mem_set_or hu with rfl | ⟨j, hj, hju⟩
    · exact hw
    · refine (h.whl u (List.mem_of_getElem? hju)).keep (o.kpt fun q => hj ?_)
      exact nodup_at h.tg hju hk q
  · rw [map_set_same (·.name) hk hn]; exact h.tn
  · rw [map_set_same (·.g) hk hg]; exact h.tg
  · rcases mem_set_or hu with rfl | ⟨j, _, hju⟩
    · rw [hg]; exact h.gg t (List.mem_of_getElem? hk)
    · exact h.gg u (List.mem_of_getElem? hju)
theorem hneed_c {H dw da : Nat} {tm : List Team} {ab : List (Str × Str)} {nm up : Str} (h : HouseD σ H dw da tm ab) (hm : (nm, up) ∈ ab) (hq : Q (.str up) σ) : WFn (cx w mean mg mb) ⟨n + 1, true, sc⟩ m_House_need [.ref H, .str nm] ρ Q X σ := by
  have hH := h.hou
  have hd := h.das
  have hg := getK_above h hm
  refine WFn.fn2 (p1 := "self") (p2 := "name") ⟨⟨_, _, _, _, _, _, _, _, _, _, _, _, _, (rfl : (Mine.hd.heap_39 w.params).lookup m_House_need = _), by kernel_rfl, us2 fun _ _ => rfl⟩, by kernel_rfl⟩ ?_
  with_reducible refine WSs.cons ?_
  with_reducible refine WS.ite ?_
  with_reducible refine WT.bool ?_
  with_reducible refine WA.or ?_
  with_reducible refine WT.not ?_
  with_reducible refine WT.plain (by with_unfolding_all (first | exact fun _ _ => rfl | exact fun _ _ _ => rfl)) ?_
  with_reducible refine WE.call rfl rfl ?_
  with_reducible refine WE.globalA (by kernel_rfl) g_isinstance ?_
  with_reducible refine And.intro (Callee.con rfl) ?_
  with_reducible refine WEs.cons rfl ?_
  with_reducible refine WE.localA (by kernel_rfl) (by kernel_rfl) (by walk_at "lk") ?_
  with_reducible refine WEs.cons rfl ?_
  with_reducible refine WE.globalA (by kernel_rfl) g_str ?_
  with_reducible refine WEs.nil ?_
  with_reducible refine WCall.isinstance (by first | with_reducible assumption | (with_reducible exact KindOf.int) | (with_reducible exact KindOf.str) | (with_reducible exact KindOf.bool) | (with_reducible exact KindOf.none) | ((with_reducible apply KindOf.list); walk_at "hp") | ((with_reducible apply KindOf.tuple); walk_at "hp")) k_str_str ?_
  with_reducible refine WTr.bool ?_
  with_reducible refine if_nt ?_
  with_reducible refine WA.or ?_
  with_reducible refine WT.cmp1 rfl ?_
  with_reducible refine WE.localA (by kernel_rfl) (by kernel_rfl) (by walk_at "lk") ?_
  with_reducible refine WE.attr (by with_unfolding_all (first | exact fun _ _ => rfl | exact fun _ _ _ => rfl)) ?_
  with_reducible refine WE.localA (by kernel_rfl) (by kernel_rfl) (by walk_at "lk") ?_
  with_reducible refine WGet.inst (by walk_at "hp") (by kernel_rfl) (by repeat (first | (with_reducible exact lk_head) | (with_reducible refine lk_tail (by kernel_rfl) ?_))) (by with_unfolding_all rfl) ?_
  with_reducible refine WC.notInS_t (by walk_at "hp") (by with_reducible assumption) ?_
  with_reducible refine WTr.bool ?_
  with_reducible refine if_ff ?_
  with_reducible refine WA.or_nil ?_
  with_reducible refine if_ff ?_
  with_reducible refine WSs.nil ?_
  with_reducible refine WSs.cons ?_
  with_reducible refine WS.ret ?_
  with_reducible refine WE.sub ?_
  with_reducible refine WE.attr (by with_unfolding_all (first | exact fun _ _ => rfl | exact fun _ _ _ => rfl)) ?_
  with_reducible refine WE.localA (by kernel_rfl) (by kernel_rfl) (by walk_at "lk") ?_
  with_reducible refine WGet.inst (by walk_at "hp") (by kernel_rfl) (by repeat (first | (with_reducible exact lk_head) | (with_reducible refine lk_tail (by kernel_rfl) ?_))) (by with_unfolding_all rfl) ?_
  with_reducible refine WE.localA (by kernel_rfl) (by kernel_rfl) (by walk_at "lk") ?_
  with_reducible refine WSub.sdict (by with_unfolding_all (first | exact fun _ _ => rfl | exact fun _ _ _ => rfl)) (by walk_at "hp") (by with_reducible assumption) ?_
  exact hq
theorem hneed_no {H dw da : Nat} {tm : List Team} {ab : List (Str × Str)} {nm : Str} (h : HouseD σ H dw da tm ab) (hm : nm ∉ ab.map (·.1)) (hx : ∀ e, X false a_NoName e σ) : WFn (cx w mean mg mb) ⟨n + 1, true, sc⟩ m_House_need [.ref H, .str nm] ρ Q X σ := by
  have hH := h.hou
  have hd := h.das
  have hg := getK_noabove hm
  refine WFn.fn2X (p1 := "self") (p2 := "name") ⟨⟨_, _, _, _, _, _, _, _, _, _, _, _, _, (rfl : (Mine.hd.heap_39 w.params).lookup m_House_need = _), by kernel_rfl, us2 fun _ _ => rfl⟩, by kernel_rfl⟩ ?_
  with_reducible refine WSs.cons ?_
  with_reducible refine WS.ite ?_
  with_reducible refine WT.bool ?_
  with_reducible refine WA.or ?_
  with_reducible refine WT.not ?_
  with_reducible refine WT.plain (by with_unfolding_all (first | exact fun _ _ => rfl | exact fun _ _ _ => rfl)) ?_
  with_reducible refine WE.call rfl rfl ?_
  with_reducible refine WE.globalA (by kernel_rfl) g_isinstance ?_
  with_reducible refine And.intro (Callee.con rfl) ?_
  with_reducible refine WEs.cons rfl ?_
  with_reducible refine WE.localA (by kernel_rfl) (by kernel_rfl) (by walk_at "lk") ?_
  with_reducible refine WEs.cons rfl ?_
  with_reducible refine WE.globalA (by kernel_rfl) g_str ?_
  with_reducible refine WEs.nil ?_
  with_reducible refine WCall.isinstance (by first | with_reducible assumption | (with_reducible exact KindOf.int) | (with_reducible exact KindOf.str) | (with_reducible exact KindOf.bool) | (with_reducible exact KindOf.none) | ((with_reducible apply KindOf.list); walk_at "hp") | ((with_reducible apply KindOf.tuple); walk_at "hp")) k_str_str ?_
  with_reducible refine WTr.bool ?_
  with_reducible refine if_nt ?_
  with_reducible refine WA.or ?_
  with_reducible refine WT.cmp1 rfl ?_
  with_reducible refine WE.localA (by kernel_rfl) (by kernel_rfl) (by walk_at "lk") ?_
  with_reducible refine WE.attr (by with_unfolding_all (first | exact fun _ _ => rfl | exact fun _ _ _ => rfl)) ?_
  with_reducible refine WE.localA (by kernel_rfl) (by kernel_rfl) (by walk_at "lk") ?_
  with_reducible refine WGet.inst (by walk_at "hp") (by kernel_rfl) (by repeat (first | (with_reducible exact lk_head) | (with_reducible refine lk_tail (by kernel_rfl) ?_))) (by with_unfolding_all rfl) ?_
  with_reducible refine WC.notInS_f (by walk_at "hp") (by with_reducible assumption) ?_
  with_reducible refine WTr.bool ?_
  with_reducible refine if_tt ?_
  with_reducible refine if_tt ?_
  with_reducible refine WSs.cons ?_
  refine WS.raise rfl (by kernel_rfl) g_NoName (by kernel_rfl) PySem.F.excBase_ValueError PySem.F.excBase_ValueError (by kernel_rfl) rfl ?_
  with_reducible refine WE.str ?_
  exact hx
theorem hneed_odd {H : Nat} {v : MV} {t : Value} (kd : KindOf σ v t) (ks : kitOne (cx w mean mg mb).K t (.type "str") = some false) (hx : ∀ e, X false a_NoName e σ) : WFn (cx w mean mg mb) ⟨n + 1, true, sc⟩ m_House_need [.ref H, v] ρ Q X σ := by
  refine WFn.fn2X (p1 := "self") (p2 := "name") ⟨⟨_, _, _, _, _, _, _, _, _, _, _, _, _, (rfl : (Mine.hd.heap_39 w.params).lookup m_House_need = _), by kernel_rfl, us2 fun _ _ => rfl⟩, by kernel_rfl⟩ ?_
  with_reducible refine WSs.cons ?_
  with_reducible refine WS.ite ?_
  with_reducible refine WT.bool ?_
  with_reducible refine WA.or ?_
  with_reducible refine WT.not ?_
  with_reducible refine WT.plain (by with_unfolding_all (first | exact fun _ _ => rfl | exact fun _ _ _ => rfl)) ?_
  with_reducible refine WE.call rfl rfl ?_
  with_reducible refine WE.globalA (by kernel_rfl) g_isinstance ?_
  with_reducible refine And.intro (Callee.con rfl) ?_
  with_reducible refine WEs.cons rfl ?_
  with_reducible refine WE.localA (by kernel_rfl) (by kernel_rfl) (by walk_at "lk") ?_
  with_reducible refine WEs.cons rfl ?_
  with_reducible refine WE.globalA (by kernel_rfl) g_str ?_
  with_reducible refine WEs.nil ?_
  with_reducible refine WCall.isinstance (by first | with_reducible assumption | (with_reducible exact KindOf.int) | (with_reducible exact KindOf.str) | (with_reducible exact KindOf.bool) | (with_reducible exact KindOf.none) | ((with_reducible apply KindOf.list); walk_at "hp") | ((with_reducible apply KindOf.tuple); walk_at "hp")) (by with_reducible assumption) ?_
  with_reducible refine WTr.bool ?_
  with_reducible refine if_nf ?_
  with_reducible refine if_tt ?_
  with_reducible refine WSs.cons ?_
  refine WS.raise rfl (by kernel_rfl) g_NoName (by kernel_rfl) PySem.F.excBase_ValueError PySem.F.excBase_ValueError (by kernel_rfl) rfl ?_
  with_reducible refine WE.str ?_
  exact hx
theorem is_team_yes {H dw da : Nat} {tm : List Team} {ab : List (Str × Str)} {t : Team} (h : HouseD σ H dw da tm ab) (ht : t ∈ tm) (hq : Q (.bool true) σ) : WFn (cx w mean mg mb) ⟨n + 1, true, sc⟩ m_House_is_team [.ref H, .str t.name] ρ Q X σ := by
  have hH := h.hou
  have hd := h.dws
  have hg := getK_team h ht
  refine WFn.fn2 (p1 := "self") (p2 := "team") ⟨⟨_, _, _, _, _, _, _, _, _, _, _, _, _, (rfl : (Mine.hd.heap_39 w.params).lookup m_House_is_team = _), by kernel_rfl, us2 fun _ _ => rfl⟩, by kernel_rfl⟩ ?_
  with_reducible refine WSs.cons ?_
  with_reducible refine WS.ret ?_
  with_reducible refine WE.and ?_
  with_reducible refine WE.call rfl rfl ?_
  with_reducible refine WE.globalA (by kernel_rfl) g_isinstance ?_
  with_reducible refine And.intro (Callee.con rfl) ?_
  with_reducible refine WEs.cons rfl ?_
  with_reducible refine WE.localA (by kernel_rfl) (by kernel_rfl) (by walk_at "lk") ?_
  with_reducible refine WEs.cons rfl ?_
  with_reducible refine WE.globalA (by kernel_rfl) g_str ?_
  with_reducible refine WEs.nil ?_
  with_reducible refine WCall.isinstance (by first | with_reducible assumption | (with_reducible exact KindOf.int) | (with_reducible exact KindOf.str) | (with_reducible exact KindOf.bool) | (with_reducible exact KindOf.none) | ((with_reducible apply KindOf.list); walk_at "hp") | ((with_reducible apply KindOf.tuple); walk_at "hp")) k_str_str ?_
  with_reducible refine WTr.bool ?_
  with_reducible refine if_tt ?_
  with_reducible refine WE.and1 ?_
  with_reducible refine WE.cmp1 rfl ?_
  with_reducible refine WE.localA (by kernel_rfl) (by kernel_rfl) (by walk_at "lk") ?_
  with_reducible refine WE.attr (by with_unfolding_all (first | exact fun _ _ => rfl | exact fun _ _ _ => rfl)) ?_
  with_reducible refine WE.localA (by kernel_rfl) (by kernel_rfl) (by walk_at "lk") ?_
  with_reducible refine WGet.inst (by walk_at "hp") (by kernel_rfl) (by repeat (first | (with_reducible exact lk_head) | (with_reducible refine lk_tail (by kernel_rfl) ?_))) (by with_unfolding_all rfl) ?_
  with_reducible refine WC.inS_t (by walk_at "hp") (by with_reducible assumption) ?_
  exact hq
theorem is_team_no {H dw da : Nat} {tm : List Team} {ab : List (Str × Str)} {nm : Str} (h : HouseD σ H dw da tm ab) (hm : nm ∉ tm.map (·.name)) (hq : Q (.bool false) σ) : WFn (cx w mean mg mb) ⟨n + 1, true, sc⟩ m_House_is_team [.ref H, .str nm] ρ Q X σ := by
  have hH := h.hou
  have hd := h.dws
  have hg := getK_noteam hm
  refine WFn.fn2 (p1 := "self") (p2 := "team") ⟨⟨_, _, _, _, _, _, _, _, _, _, _, _, _, (rfl : (Mine.hd.heap_39 w.params).lookup m_House_is_team = _), by kernel_rfl, us2 fun _ _ => rfl⟩, by kernel_rfl⟩ ?_
  with_reducible refine WSs.cons ?_
  with_reducible refine WS.ret ?_
  with_reducible refine WE.and ?_
  with_reducible refine WE.call rfl rfl ?_
  with_reducible refine WE.globalA (by kernel_rfl) g_isinstance ?_
  with_reducible refine And.intro (Callee.con rfl) ?_
  with_reducible refine WEs.cons rfl ?_
  with_reducible refine WE.localA (by kernel_rfl) (by kernel_rfl) (by walk_at "lk") ?_
  with_reducible refine WEs.cons rfl ?_
  with_reducible refine WE.globalA (by kernel_rfl) g_str ?_
  with_reducible refine WEs.nil ?_
  with_reducible refine WCall.isinstance (by first | with_reducible assumption | (with_reducible exact KindOf.int) | (with_reducible exact KindOf.str) | (with_reducible exact KindOf.bool) | (with_reducible exact KindOf.none) | ((with_reducible apply KindOf.list); walk_at "hp") | ((with_reducible apply KindOf.tuple); walk_at "hp")) k_str_str ?_
  with_reducible refine WTr.bool ?_
  with_reducible refine if_tt ?_
  with_reducible refine WE.and1 ?_
  with_reducible refine WE.cmp1 rfl ?_
  with_reducible refine WE.localA (by kernel_rfl) (by kernel_rfl) (by walk_at "lk") ?_
  with_reducible refine WE.attr (by with_unfolding_all (first | exact fun _ _ => rfl | exact fun _ _ _ => rfl)) ?_
  with_reducible refine WE.localA (by kernel_rfl) (by kernel_rfl) (by walk_at "lk") ?_
  with_reducible refine WGet.inst (by walk_at "hp") (by kernel_rfl) (by repeat (first | (with_reducible exact lk_head) | (with_reducible refine lk_tail (by kernel_rfl) ?_))) (by with_unfolding_all rfl) ?_
  with_reducible refine WC.inS_f (by walk_at "hp") (by with_reducible assumption) ?_
  exact hq
theorem is_team_odd {H : Nat} {v : MV} {t : Value} (kd : KindOf σ v t) (ks : kitOne (cx w mean mg mb).K t (.type "str") = some false) (hq : Q (.bool false) σ) : WFn (cx w mean mg mb) ⟨n + 1, true, sc⟩ m_House_is_team [.ref H, v] ρ Q X σ := by
  refine WFn.fn2 (p1 := "self") (p2 := "team") ⟨⟨_, _, _, _, _, _, _, _, _, _, _, _, _, (rfl : (Mine.hd.heap_39 w.params).lookup m_House_is_team = _), by kernel_rfl, us2 fun _ _ => rfl⟩, by kernel_rfl⟩ ?_
  with_reducible refine WSs.cons ?_
  with_reducible refine WS.ret ?_
  with_reducible refine WE.and ?_
  with_reducible refine WE.call rfl rfl ?_
  with_reducible refine WE.globalA (by kernel_rfl) g_isinstance ?_
  with_reducible refine And.intro (Callee.con rfl) ?_
  with_reducible refine WEs.cons rfl ?_
  with_reducible refine WE.localA (by kernel_rfl) (by kernel_rfl) (by walk_at "lk") ?_
  with_reducible refine WEs.cons rfl ?_
  with_reducible refine WE.globalA (by kernel_rfl) g_str ?_
  with_reducible refine WEs.nil ?_
  with_reducible refine WCall.isinstance (by first | with_reducible assumption | (with_reducible exact KindOf.int) | (with_reducible exact KindOf.str) | (with_reducible exact KindOf.bool) | (with_reducible exact KindOf.none) | ((with_reducible apply KindOf.list); walk_at "hp") | ((with_reducible apply KindOf.tuple); walk_at "hp")) (by with_reducible assumption) ?_
  with_reducible refine WTr.bool ?_
  with_reducible refine if_ff ?_
  exact hq
theorem need_hand_c {H dw da : Nat} {tm : List Team} {ab : List (Str × Str)} {nm up : Str} (h : HouseD σ H dw da tm ab) (hm : (nm, up) ∈ ab) (hn : nm ∉ tm.map (·.name)) (hq : Q (.str up) σ) : WFn (cx w mean mg mb) ⟨n + 2, true, sc⟩ m_House_need_hand [.ref H, .str nm] ρ Q X σ := by
  have hH := h.hou
  have hd := h.dws
  have hg := getK_noteam hn
  refine WFn.fn2 (p1 := "self") (p2 := "name") ⟨⟨_, _, _, _, _, _, _, _, _, _, _, _, _, (rfl : (Mine.hd.heap_39 w.params).lookup m_House_need_hand = _), by kernel_rfl, us2 fun _ _ => rfl⟩, by kernel_rfl⟩ ?_
  with_reducible refine WSs.cons ?_
  with_reducible refine WS.assign (by with_unfolding_all (first | exact fun _ _ => rfl | exact fun _ _ _ => rfl)) ?_
  with_reducible refine WE.method (by with_unfolding_all (first | exact fun _ _ => rfl | exact fun _ _ _ => rfl)) rfl rfl rfl ?_
  with_reducible refine WE.localA (by kernel_rfl) (by kernel_rfl) (by walk_at "lk") ?_
  with_reducible refine WM.inst (by walk_at "hp") ms_House_need (by kernel_rfl) ?_
  with_reducible refine And.intro (Callee.meth ms_House_need) ?_
  with_reducible refine WEs.cons rfl ?_
  with_reducible refine WE.localA (by kernel_rfl) (by kernel_rfl) (by walk_at "lk") ?_
  with_reducible refine WEs.nil ?_
  refine WCall.of_fn (hneed_c h hm ?_)
  with_reducible refine WSt.localA (by kernel_rfl) ?_
  with_reducible refine WSs.cons ?_
  with_reducible refine WS.ite ?_
  with_reducible refine WT.cmp1 rfl ?_
  with_reducible refine WE.localA (by kernel_rfl) (by kernel_rfl) (by walk_at "lk") ?_
  with_reducible refine WE.attr (by with_unfolding_all (first | exact fun _ _ => rfl | exact fun _ _ _ => rfl)) ?_
  with_reducible refine WE.localA (by kernel_rfl) (by kernel_rfl) (by walk_at "lk") ?_
  with_reducible refine WGet.inst (by walk_at "hp") (by kernel_rfl) (by repeat (first | (with_reducible exact lk_head) | (with_reducible refine lk_tail (by kernel_rfl) ?_))) (by with_unfolding_all rfl) ?_
  with_reducible refine WC.inS_f (by walk_at "hp") (by with_reducible assumption) ?_
  with_reducible refine WTr.bool ?_
  with_reducible refine if_ff ?_
  with_reducible refine WSs.nil ?_
  with_reducible refine WSs.cons ?_
  with_reducible refine WS.ret ?_
  with_reducible refine WE.localA (by kernel_rfl) (by kernel_rfl) (by walk_at "lk") ?_
  exact hq
def LETTERS : Str := "abcdefghijklmnopqrstuvwxyz"
def inL (n : Nat) : Bool := !(Builtin.Str.occurrences LETTERS ⟨#[n]⟩ 0 LETTERS.length 1).isEmpty
def goodN (x : Str) : Bool := decide (1 ≤ (x.length : Int)) && decide ((x.length : Int) ≤ 8) && (x.cps.toList.map inL).all id
theorem is_name_c {x : Str} (hz : x.length ≤ 1000) (ha : x.cps.all (· < 128) = true) (hq : ∀ σ', Extd σ σ' → Q (.bool (goodN x)) σ') : WFn (cx w mean mg mb) ⟨n + 1, true, sc⟩ a_is_name [.str x] ρ Q X σ := by
  refine WFn.fn1 (p1 := "thing") ⟨⟨_, _, _, _, _, _, _, _, _, _, _, _, _, (rfl : (Mine.hd.heap_39 w.params).lookup a_is_name = _), by kernel_rfl, us1 fun _ => rfl⟩, by kernel_rfl⟩ ?_
  with_reducible refine WSs.cons ?_
  with_reducible refine WS.ite ?_
  with_reducible refine WT.bool ?_
  with_reducible refine WA.or ?_
  with_reducible refine WT.not ?_
  with_reducible refine WT.plain (by with_unfolding_all (first | exact fun _ _ => rfl | exact fun _ _ _ => rfl)) ?_
  with_reducible refine WE.call rfl rfl ?_
  with_reducible refine WE.globalA (by kernel_rfl) g_isinstance ?_
  with_reducible refine And.intro (Callee.con rfl) ?_
  with_reducible refine WEs.cons rfl ?_
  with_reducible refine WE.localA (by kernel_rfl) (by kernel_rfl) (by walk_at "lk") ?_
  with_reducible refine WEs.cons rfl ?_
  with_reducible refine WE.globalA (by kernel_rfl) g_str ?_
  with_reducible refine WEs.nil ?_
  with_reducible refine WCall.isinstance (by first | with_reducible assumption | (with_reducible exact KindOf.int) | (with_reducible exact KindOf.str) | (with_reducible exact KindOf.bool) | (with_reducible exact KindOf.none) | ((with_reducible apply KindOf.list); walk_at "hp") | ((with_reducible apply KindOf.tuple); walk_at "hp")) k_str_str ?_
  with_reducible refine WTr.bool ?_
  with_reducible refine if_nt ?_
  with_reducible refine WA.or ?_
  with_reducible refine WT.not ?_
  with_reducible refine WT.cmp2 rfl ?_
  with_reducible refine WE.int ?_
  with_reducible refine WE.call rfl rfl ?_
  with_reducible refine WE.globalA (by kernel_rfl) g_len ?_
  with_reducible refine And.intro (Callee.con rfl) ?_
  with_reducible refine WEs.cons rfl ?_
  with_reducible refine WE.localA (by kernel_rfl) (by kernel_rfl) (by walk_at "lk") ?_
  with_reducible refine WEs.nil ?_
  refine WCall.lenStr (Nat.le_trans hz (by decide)) ?_
  unfold goodN at hq
  by_cases h1 : 1 ≤ (x.length : Int)
  · rw [decide_eq_true h1, Bool.true_and] at hq
    by_cases h8 : (x.length : Int) ≤ 8
    · rw [decide_eq_true h8, Bool.true_and] at hq
      with_reducible refine WC.le ?_
      with_reducible refine WTr.bool ?_
      with_reducible refine if_dt (by with_reducible assumption) ?_
      with_reducible refine WE.globalA (by kernel_rfl) g_MOST_LETTERS ?_
      with_reducible refine WC.le ?_
      with_reducible refine WTr.bool ?_
      rw [decide_eq_true h8]
      with_reducible refine if_nt ?_
      with_reducible refine WA.or_nil ?_
      with_reducible refine if_ff ?_
      with_reducible refine WSs.nil ?_
      with_reducible refine WSs.cons ?_
      with_reducible refine WS.ret ?_
      with_reducible refine WE.call rfl rfl ?_
      with_reducible refine WE.globalA (by kernel_rfl) g_all ?_
      with_reducible refine And.intro (Callee.con rfl) ?_
      with_reducible refine WEs.cons rfl ?_
      refine WE.compA 9 rfl (by with_unfolding_all (first | exact fun _ _ => rfl | exact fun _ _ _ => rfl)) (by kernel_rfl) (by ((repeat (first | assumption | (refine Lo.put_ne (by kernel_rfl) ?_))); rfl)) ?_
      with_reducible refine WE.localA (by kernel_rfl) (by kernel_rfl) (by walk_at "lk") ?_
      refine ⟨_, _, Iterable.text ha, by simp; exact Nat.le_trans hz (by decide), ?_⟩
      refine WComp.inv (fun j acc σ' => σ' = σ ∧ acc = ((x.cps.toList.take j).map inL).map .bool) _ 0 ⟨rfl, rfl⟩ ?_ ?_
      · rintro k v acc σ' hv ⟨rfl, rfl⟩
        rw [List.getElem?_map] at hv
        obtain ⟨ch, hc, rfl⟩ := Option.map_eq_some_iff.mp hv
        refine ⟨trivial, ?_⟩
        with_reducible refine WE.cmp1 rfl ?_
        with_reducible refine WE.localA (by kernel_rfl) (by kernel_rfl) (by walk_at "lk") ?_
        with_reducible refine WE.globalA (by kernel_rfl) g_LETTERS ?_
        refine WC.inText ?_
        refine ⟨rfl, ?_⟩
        rw [Nat.zero_add, List.take_add_one, hc, List.map_append, List.map_append]
        rfl
      · rintro acc σ' ⟨rfl, rfl⟩
        refine ⟨trivial, fun D hD => ?_⟩
        have el : x.cps.toList.take (0 + (x.cps.toList.map fun n => MV.str ⟨#[n]⟩).length) = x.cps.toList := by rw [Nat.zero_add, List.length_map, List.take_length]
        rw [el]
        with_reducible refine WEs.nil ?_
        refine WCall.all rfl (ListAt.own Hp.self) ?_
        exact hq _ fun a p e => Hp.new hD e
    · rw [decide_eq_false h8, Bool.false_and] at hq
      with_reducible refine WC.le ?_
      with_reducible refine WTr.bool ?_
      with_reducible refine if_dt (by with_reducible assumption) ?_
      with_reducible refine WE.globalA (by kernel_rfl) g_MOST_LETTERS ?_
      with_reducible refine WC.le ?_
      with_reducible refine WTr.bool ?_
      rw [decide_eq_false h8]
      with_reducible refine if_nf ?_
      with_reducible refine if_tt ?_
      with_reducible refine WSs.cons ?_
      with_reducible refine WS.ret ?_
      with_reducible refine WE.bool ?_
      exact hq _ fun a p e => e
  · rw [decide_eq_false h1, Bool.false_and, Bool.false_and] at hq
    with_reducible refine WC.le ?_
    with_reducible refine WTr.bool ?_
    with_reducible refine if_df (by with_reducible assumption) ?_
    with_reducible refine if_nf ?_
    with_reducible refine if_tt ?_
    with_reducible refine WSs.cons ?_
    with_reducible refine WS.ret ?_
    with_reducible refine WE.bool ?_
    exact hq _ fun a p e => e
theorem is_name_odd {v : MV} {t : Value} (kd : KindOf σ v t) (ks : kitOne (cx w mean mg mb).K t (.type "str") = some false) (hq : Q (.bool false) σ) : WFn (cx w mean mg mb) ⟨n + 1, true, sc⟩ a_is_name [v] ρ Q X σ := by
  refine WFn.fn1 (p1 := "thing") ⟨⟨_, _, _, _, _, _, _, _, _, _, _, _, _, (rfl : (Mine.hd.heap_39 w.params).lookup a_is_name = _), by kernel_rfl, us1 fun _ => rfl⟩, by kernel_rfl⟩ ?_
  with_reducible refine WSs.cons ?_
  with_reducible refine WS.ite ?_
  with_reducible refine WT.bool ?_
  with_reducible refine WA.or ?_
  with_reducible refine WT.not ?_
  with_reducible refine WT.plain (by with_unfolding_all (first | exact fun _ _ => rfl | exact fun _ _ _ => rfl)) ?_
  with_reducible refine WE.call rfl rfl ?_
  with_reducible refine WE.globalA (by kernel_rfl) g_isinstance ?_
  with_reducible refine And.intro (Callee.con rfl) ?_
  with_reducible refine WEs.cons rfl ?_
  with_reducible refine WE.localA (by kernel_rfl) (by kernel_rfl) (by walk_at "lk") ?_
  with_reducible refine WEs.cons rfl ?_
  with_reducible refine WE.globalA (by kernel_rfl) g_str ?_
  with_reducible refine WEs.nil ?_
  with_reducible refine WCall.isinstance (by first | with_reducible assumption | (with_reducible exact KindOf.int) | (with_reducible exact KindOf.str) | (with_reducible exact KindOf.bool) | (with_reducible exact KindOf.none) | ((with_reducible apply KindOf.list); walk_at "hp") | ((with_reducible apply KindOf.tuple); walk_at "hp")) (by with_reducible assumption) ?_
  with_reducible refine WTr.bool ?_
  with_reducible refine if_nf ?_
  with_reducible refine if_tt ?_
  with_reducible refine WSs.cons ?_
  with_reducible refine WS.ret ?_
  with_reducible refine WE.bool ?_
  exact hq
theorem HouseD.ext {σ σ' : Hp} {H dw da : Nat} {tm : List Team} {ab : List (Str × Str)} (h : HouseD σ H dw da tm ab) (e : Extd σ σ') : HouseD σ' H dw da tm ab := h.keep (fun q => e _ _ q) (fun q _ => e _ _ q)
theorem make_house (g : Nat) (hg : 100 ≤ g) (hq : ∀ H dw da W d σ', HouseD σ' H dw da [⟨"", W, d, g, 0, []⟩] [] → Extd σ σ' → Q (.ref H) σ') : WFn (cx w mean mg mb) ⟨n + 4, true, sc⟩ a_House [] ρ Q X σ := by
  refine WFn.make 1 mi_House fun b hb hbn => ?_
  refine WFn.fn1 (p1 := "self") ⟨⟨_, _, _, _, _, _, _, _, _, _, _, _, _, (rfl : (Mine.hd.heap_39 w.params).lookup m_House_init = _), by kernel_rfl, us1 fun _ => rfl⟩, by kernel_rfl⟩ ?_
  with_reducible refine WSs.cons ?_
  with_reducible refine WS.setAttr (by with_unfolding_all (first | exact fun _ _ => rfl | exact fun _ _ _ => rfl)) ?_
  refine WE.dict1 1 fun dw hdw => ?_
  with_reducible refine WE.globalA (by kernel_rfl) g_TOP ?_
  with_reducible refine WE.call rfl rfl ?_
  with_reducible refine WE.globalA (by kernel_rfl) g_Wheel ?_
  with_reducible refine And.intro (Callee.cls mi_Wheel) ?_
  with_reducible refine WEs.nil ?_
  refine WCall.of_fn (make_wheelF g fun W d σ2 n1 n2 hw e2 => ?_)
  have hdw2 := e2 _ _ Hp.self
  have hb2 := e2 _ _ (Hp.new hdw.none Hp.self)
  refine ⟨_, rfl, hdw2, ?_⟩
  have hbd : b ≠ dw := fun q => by have := hdw.none; rw [← q, Hp.self] at this; exact nomatch this
  have e0 : Extd σ (σ2.put dw 1 (.sdict [("", .ref W)])) := fun a p q => Hp.ne (fun e => by have := hdw.none; rw [← e, Hp.new hbn q] at this; exact nomatch this) (e2 _ _ (Hp.new hdw.none (Hp.new hbn q)))
  have hw3 := hw.keep (σ' := σ2.put dw 1 (.sdict [("", .ref W)])) (Kpt.put hdw2 (by omega))
  have hb3 : (σ2.put dw 1 (.sdict [("", .ref W)])) b = _ := Hp.ne hbd hb2
  have hd3 : (σ2.put dw 1 (.sdict [("", .ref W)])) dw = some (1, .sdict [("", .ref W)]) := Hp.self
  generalize σ2.put dw 1 (.sdict [("", .ref W)]) = σ3 at e0 hw3 hb3 hd3 ⊢
  with_reducible refine WE.localA (by kernel_rfl) (by kernel_rfl) (by walk_at "lk") ?_
  refine WSet.inst' (fs' := [("wheels", .ref dw)]) hb3 (by kernel_rfl) (by kernel_rfl) (by simp) ?_
  with_reducible refine WSs.cons ?_
  with_reducible refine WS.setAttr (by with_unfolding_all (first | exact fun _ _ => rfl | exact fun _ _ _ => rfl)) ?_
  refine WE.sdict 1 fun da hda => ?_
  have hbda : b ≠ da := fun q => by have := hda.none; rw [← q, Hp.self] at this; exact nomatch this
  have hdd : dw ≠ da := fun q => by have := hda.none; rw [← q, Hp.ne (Ne.symm hbd) hd3] at this; exact nomatch this
  with_reducible refine WE.localA (by kernel_rfl) (by kernel_rfl) (by walk_at "lk") ?_
  refine WSet.inst' (fs' := [("wheels", .ref dw), ("above", .ref da)]) (Hp.ne hbda Hp.self) (by kernel_rfl) (by kernel_rfl) (by simp) ?_
  with_reducible refine WSs.nil ?_
  refine ⟨rfl, ?_⟩
  have hg1 : g ≠ 1 := by omega
  refine hq b dw da W d _ ⟨Hp.self, Hp.ne (Ne.symm hbd) (Hp.ne hdd (Hp.ne (Ne.symm hbd) hd3)), Hp.ne (Ne.symm hbda) Hp.self, fun t ht => ?_, by simp, by simp, fun t ht => ?_, by simp, hdd⟩ fun a p q => ?_
  · rw [List.mem_singleton.mp ht]
    exact hw3.keep ⟨fun a o q => Hp.tag (Hp.ne hbda Hp.self) hg1 (Hp.new hda.none (Hp.tag hb3 hg1 q))⟩
  · rw [List.mem_singleton.mp ht]; exact hg
  · have ne : a ≠ b := fun e => by rw [e, hbn] at q; exact nomatch q
    exact Hp.ne ne (Hp.new hda.none (Hp.ne ne (e0 _ _ q)))
theorem stand_ok {H dw da k : Nat} {tm : List Team} {ab : List (Str × Str)} {t : Team} {nm : Str} {share : Int} (h : HouseD σ H dw da tm ab) (hz : nm.length ≤ 1000) (ha : nm.cps.all (· < 128) = true) (hn : goodN nm = true) (hnew : nm ∉ ab.map (·.1)) (hk : tm[k]? = some t) (h0 : 1 ≤ share) (h1 : share ≤ 12) (hnt : nm ∉ t.l.map (·.name)) (hl : t.l.length ≤ 1000000) (hal : ab.length ≤ 1000000)
    (hq : ∀ a σ', HouseD σ' H dw da (tm.set k { t with l := t.l ++ [⟨nm, a, share, 0, false⟩] }) (ab ++ [(nm, t.name)]) → KpH σ σ' → Q .none σ') : WFn (cx w mean mg mb) ⟨n + 4, true, sc⟩ m_House_stand [.ref H, .str nm, .str t.name, .int share] ρ Q X σ := by
  refine WFn.fn4 (p1 := "self") (p2 := "name") (p3 := "above") (p4 := "share") ⟨⟨_, _, _, _, _, _, _, _, _, _, _, _, _, (rfl : (Mine.hd.heap_39 w.params).lookup m_House_stand = _), by kernel_rfl, us4 fun _ _ _ _ => rfl⟩, by kernel_rfl⟩ ?_
  with_reducible refine WSs.cons ?_
  with_reducible refine WS.ite ?_
  with_reducible refine WT.not ?_
  with_reducible refine WT.plain (by with_unfolding_all (first | exact fun _ _ => rfl | exact fun _ _ _ => rfl)) ?_
  with_reducible refine WE.call rfl rfl ?_
  with_reducible refine WE.globalA (by kernel_rfl) g_is_name ?_
  with_reducible refine And.intro (Callee.fn fn_is_name) ?_
  with_reducible refine WEs.cons rfl ?_
  with_reducible refine WE.localA (by kernel_rfl) (by kernel_rfl) (by walk_at "lk") ?_
  with_reducible refine WEs.nil ?_
  refine WCall.of_fn (is_name_c hz ha fun σ1 e1 => ?_)
  rw [hn]
  have hm := List.mem_of_getElem? hk
  have h2 := h.ext e1
  have hH := h2.hou
  have hdd := h2.das
  have hdw := h2.dws
  have hg := getK_noabove hnew
  have hgt := getK_team h2 hm
  with_reducible refine WTr.bool ?_
  with_reducible refine if_nt ?_
  with_reducible refine WSs.nil ?_
  with_reducible refine WSs.cons ?_
  with_reducible refine WS.ite ?_
  with_reducible refine WT.cmp1 rfl ?_
  with_reducible refine WE.localA (by kernel_rfl) (by kernel_rfl) (by walk_at "lk") ?_
  with_reducible refine WE.attr (by with_unfolding_all (first | exact fun _ _ => rfl | exact fun _ _ _ => rfl)) ?_
  with_reducible refine WE.localA (by kernel_rfl) (by kernel_rfl) (by walk_at "lk") ?_
  with_reducible refine WGet.inst (by walk_at "hp") (by kernel_rfl) (by repeat (first | (with_reducible exact lk_head) | (with_reducible refine lk_tail (by kernel_rfl) ?_))) (by with_unfolding_all rfl) ?_
  with_reducible refine WC.inS_f (by walk_at "hp") (by with_reducible assumption) ?_
  with_reducible refine WTr.bool ?_
  with_reducible refine if_ff ?_
  with_reducible refine WSs.nil ?_
  with_reducible refine WSs.cons ?_
  with_reducible refine WS.ite ?_
  with_reducible refine WT.not ?_
  with_reducible refine WT.plain (by with_unfolding_all (first | exact fun _ _ => rfl | exact fun _ _ _ => rfl)) ?_
  with_reducible refine WE.method (by with_unfolding_all (first | exact fun _ _ => rfl | exact fun _ _ _ => rfl)) rfl rfl rfl ?_
  with_reducible refine WE.localA (by kernel_rfl) (by kernel_rfl) (by walk_at "lk") ?_
  with_reducible refine WM.inst (by walk_at "hp") ms_House_is_team (by kernel_rfl) ?_
  with_reducible refine And.intro (Callee.meth ms_House_is_team) ?_
  with_reducible refine WEs.cons rfl ?_
  with_reducible refine WE.localA (by kernel_rfl) (by kernel_rfl) (by walk_at "lk") ?_
  with_reducible refine WEs.nil ?_
  refine WCall.of_fn (is_team_yes h2 hm ?_)
  with_reducible refine WTr.bool ?_
  with_reducible refine if_nt ?_
  with_reducible refine WSs.nil ?_
  with_reducible refine WSs.cons ?_
  with_reducible refine WS.expr (by with_unfolding_all (first | exact fun _ _ => rfl | exact fun _ _ _ => rfl)) ?_
  with_reducible refine WE.call rfl rfl ?_
  with_reducible refine WE.globalA (by kernel_rfl) g_step ?_
  with_reducible refine And.intro (Callee.fn fn_step) ?_
  with_reducible refine WEs.cons rfl ?_
  with_reducible refine WE.localA (by kernel_rfl) (by kernel_rfl) (by walk_at "lk") ?_
  with_reducible refine WEs.nil ?_
  refine WCall.of_fn (step_ok h0 h1 ?_)
  have hwt := h2.whl t hm
  have hW : σ1 t.W = some (t.g, .inst a_Wheel [("past", .int t.past), ("sharers", .ref t.d)]) := hwt.whl
  with_reducible refine WSs.cons ?_
  with_reducible refine WS.expr (by with_unfolding_all (first | exact fun _ _ => rfl | exact fun _ _ _ => rfl)) ?_
  with_reducible refine WE.method (by with_unfolding_all (first | exact fun _ _ => rfl | exact fun _ _ _ => rfl)) rfl rfl rfl ?_
  with_reducible refine WE.sub ?_
  with_reducible refine WE.attr (by with_unfolding_all (first | exact fun _ _ => rfl | exact fun _ _ _ => rfl)) ?_
  with_reducible refine WE.localA (by kernel_rfl) (by kernel_rfl) (by walk_at "lk") ?_
  with_reducible refine WGet.inst (by walk_at "hp") (by kernel_rfl) (by repeat (first | (with_reducible exact lk_head) | (with_reducible refine lk_tail (by kernel_rfl) ?_))) (by with_unfolding_all rfl) ?_
  with_reducible refine WE.localA (by kernel_rfl) (by kernel_rfl) (by walk_at "lk") ?_
  with_reducible refine WSub.sdict (by with_unfolding_all (first | exact fun _ _ => rfl | exact fun _ _ _ => rfl)) (by walk_at "hp") (by with_reducible assumption) ?_
  with_reducible refine WM.inst (by walk_at "hp") ms_Wheel_enter (by kernel_rfl) ?_
  with_reducible refine And.intro (Callee.meth ms_Wheel_enter) ?_
  with_reducible refine WEs.cons rfl ?_
  with_reducible refine WE.localA (by kernel_rfl) (by kernel_rfl) (by walk_at "lk") ?_
  with_reducible refine WEs.cons rfl ?_
  with_reducible refine WE.localA (by kernel_rfl) (by kernel_rfl) (by walk_at "lk") ?_
  with_reducible refine WEs.nil ?_
  refine WCall.of_fn (enter_c hwt hnt h0 h1 hl fun a σ3 h3 o3 => ?_)
  have hh := h2.one (t' := { t with l := t.l ++ [⟨nm, a, share, 0, false⟩] }) hk rfl rfl rfl h3 o3
  have k3 : KpH σ σ3 := fun b t' o q n1 n100 => o3.at (e1 _ _ q) (by have := h.gg t hm; omega)
  have hH3 := hh.hou
  have hda3 := hh.das
  clear hH hdd hdw hW hwt h3 o3
  with_reducible refine WSs.cons ?_
  with_reducible refine WS.setItem (by with_unfolding_all (first | exact fun _ _ => rfl | exact fun _ _ _ => rfl)) ?_
  with_reducible refine WE.localA (by kernel_rfl) (by kernel_rfl) (by walk_at "lk") ?_
  with_reducible refine WE.attr (by with_unfolding_all (first | exact fun _ _ => rfl | exact fun _ _ _ => rfl)) ?_
  with_reducible refine WE.localA (by kernel_rfl) (by kernel_rfl) (by walk_at "lk") ?_
  with_reducible refine WGet.inst (by walk_at "hp") (by kernel_rfl) (by repeat (first | (with_reducible exact lk_head) | (with_reducible refine lk_tail (by kernel_rfl) ?_))) (by with_unfolding_all rfl) ?_
  with_reducible refine WE.localA (by kernel_rfl) (by kernel_rfl) (by walk_at "lk") ?_
  refine WPut.sdict hda3 (by simpa [aents] using hal) ?_
  rw [putK_no (by rw [aents_names]; exact hnew)]
  with_reducible refine WSs.nil ?_
  have ea : aents (ab ++ [(nm, t.name)]) = aents ab ++ [(nm, .str t.name)] := by simp [aents]
  rw [← ea]
  refine hq a _ ⟨Hp.ne (fun q => ?_) hH3, Hp.ne hh.dd hh.dws, Hp.self, fun u hu => (hh.whl u hu).keep (Kpt.put hda3 (by have := hh.gg u hu; omega)), hh.tn, hh.tg, hh.gg, ?_, hh.dd⟩ fun b t' o q n1 n100 => Hp.tag hda3 n1 (k3 b t' o q n1 n100)
  · rw [q, hda3] at hH3; exact nomatch hH3
  · rw [List.map_append]
    refine List.nodup_append.mpr ⟨hh.an, by simp, fun x hx y hy q => ?_⟩
    have e2 : y = nm := by simpa using hy
    exact hnew (e2 ▸ q ▸ hx)
theorem stand_bad {H : Nat} {nm : Str} {ab' v : MV} (hz : nm.length ≤ 1000) (ha : nm.cps.all (· < 128) = true) (hn : goodN nm = false) (hx : ∀ e σ', Extd σ σ' → X false a_BadName e σ') : WFn (cx w mean mg mb) ⟨n + 2, true, sc⟩ m_House_stand [.ref H, .str nm, ab', v] ρ Q X σ := by
  refine WFn.fn4X (p1 := "self") (p2 := "name") (p3 := "above") (p4 := "share") ⟨⟨_, _, _, _, _, _, _, _, _, _, _, _, _, (rfl : (Mine.hd.heap_39 w.params).lookup m_House_stand = _), by kernel_rfl, us4 fun _ _ _ _ => rfl⟩, by kernel_rfl⟩ ?_
  with_reducible refine WSs.cons ?_
  with_reducible refine WS.ite ?_
  with_reducible refine WT.not ?_
  with_reducible refine WT.plain (by with_unfolding_all (first | exact fun _ _ => rfl | exact fun _ _ _ => rfl)) ?_
  with_reducible refine WE.call rfl rfl ?_
  with_reducible refine WE.globalA (by kernel_rfl) g_is_name ?_
  with_reducible refine And.intro (Callee.fn fn_is_name) ?_
  with_reducible refine WEs.cons rfl ?_
  with_reducible refine WE.localA (by kernel_rfl) (by kernel_rfl) (by walk_at "lk") ?_
  with_reducible refine WEs.nil ?_
  refine WCall.of_fn (is_name_c hz ha fun σ1 e1 => ?_)
  rw [hn]
  with_reducible refine WTr.bool ?_
  with_reducible refine if_nf ?_
  with_reducible refine WSs.cons ?_
  refine WS.raise rfl (by kernel_rfl) g_BadName (by kernel_rfl) PySem.F.excBase_ValueError PySem.F.excBase_ValueError (by kernel_rfl) rfl ?_
  with_reducible refine WE.str ?_
  exact fun e => hx e σ1 e1
theorem stand_odd {H : Nat} {u ab' v : MV} {t : Value} (kd : KindOf σ u t) (ks : kitOne (cx w mean mg mb).K t (.type "str") = some false) (hx : ∀ e, X false a_BadName e σ) : WFn (cx w mean mg mb) ⟨n + 2, true, sc⟩ m_House_stand [.ref H, u, ab', v] ρ Q X σ := by
  refine WFn.fn4X (p1 := "self") (p2 := "name") (p3 := "above") (p4 := "share") ⟨⟨_, _, _, _, _, _, _, _, _, _, _, _, _, (rfl : (Mine.hd.heap_39 w.params).lookup m_House_stand = _), by kernel_rfl, us4 fun _ _ _ _ => rfl⟩, by kernel_rfl⟩ ?_
  with_reducible refine WSs.cons ?_
  with_reducible refine WS.ite ?_
  with_reducible refine WT.not ?_
  with_reducible refine WT.plain (by with_unfolding_all (first | exact fun _ _ => rfl | exact fun _ _ _ => rfl)) ?_
  with_reducible refine WE.call rfl rfl ?_
  with_reducible refine WE.globalA (by kernel_rfl) g_is_name ?_
  with_reducible refine And.intro (Callee.fn fn_is_name) ?_
  with_reducible refine WEs.cons rfl ?_
  with_reducible refine WE.localA (by kernel_rfl) (by kernel_rfl) (by walk_at "lk") ?_
  with_reducible refine WEs.nil ?_
  refine WCall.of_fn (is_name_odd kd ks ?_)
  with_reducible refine WTr.bool ?_
  with_reducible refine if_nf ?_
  with_reducible refine WSs.cons ?_
  refine WS.raise rfl (by kernel_rfl) g_BadName (by kernel_rfl) PySem.F.excBase_ValueError PySem.F.excBase_ValueError (by kernel_rfl) rfl ?_
  with_reducible refine WE.str ?_
  exact hx
theorem stand_twice {H dw da : Nat} {tm : List Team} {ab : List (Str × Str)} {nm up : Str} {ab' v : MV} (h : HouseD σ H dw da tm ab) (hz : nm.length ≤ 1000) (ha : nm.cps.all (· < 128) = true) (hn : goodN nm = true) (hm : (nm, up) ∈ ab) (hx : ∀ e σ', Extd σ σ' → X false a_Twice e σ') : WFn (cx w mean mg mb) ⟨n + 2, true, sc⟩ m_House_stand [.ref H, .str nm, ab', v] ρ Q X σ := by
  refine WFn.fn4X (p1 := "self") (p2 := "name") (p3 := "above") (p4 := "share") ⟨⟨_, _, _, _, _, _, _, _, _, _, _, _, _, (rfl : (Mine.hd.heap_39 w.params).lookup m_House_stand = _), by kernel_rfl, us4 fun _ _ _ _ => rfl⟩, by kernel_rfl⟩ ?_
  with_reducible refine WSs.cons ?_
  with_reducible refine WS.ite ?_
  with_reducible refine WT.not ?_
  with_reducible refine WT.plain (by with_unfolding_all (first | exact fun _ _ => rfl | exact fun _ _ _ => rfl)) ?_
  with_reducible refine WE.call rfl rfl ?_
  with_reducible refine WE.globalA (by kernel_rfl) g_is_name ?_
  with_reducible refine And.intro (Callee.fn fn_is_name) ?_
  with_reducible refine WEs.cons rfl ?_
  with_reducible refine WE.localA (by kernel_rfl) (by kernel_rfl) (by walk_at "lk") ?_
  with_reducible refine WEs.nil ?_
  refine WCall.of_fn (is_name_c hz ha fun σ1 e1 => ?_)
  rw [hn]
  have h2 := h.ext e1
  have hH := h2.hou
  have hdd := h2.das
  have hg := getK_above h2 hm
  with_reducible refine WTr.bool ?_
  with_reducible refine if_nt ?_
  with_reducible refine WSs.nil ?_
  with_reducible refine WSs.cons ?_
  with_reducible refine WS.ite ?_
  with_reducible refine WT.cmp1 rfl ?_
  with_reducible refine WE.localA (by kernel_rfl) (by kernel_rfl) (by walk_at "lk") ?_
  with_reducible refine WE.attr (by with_unfolding_all (first | exact fun _ _ => rfl | exact fun _ _ _ => rfl)) ?_
  with_reducible refine WE.localA (by kernel_rfl) (by kernel_rfl) (by walk_at "lk") ?_
  with_reducible refine WGet.inst (by walk_at "hp") (by kernel_rfl) (by repeat (first | (with_reducible exact lk_head) | (with_reducible refine lk_tail (by kernel_rfl) ?_))) (by with_unfolding_all rfl) ?_
  with_reducible refine WC.inS_t (by walk_at "hp") (by with_reducible assumption) ?_
  with_reducible refine WTr.bool ?_
  with_reducible refine if_tt ?_
  with_reducible refine WSs.cons ?_
  refine WS.raise rfl (by kernel_rfl) g_Twice (by kernel_rfl) PySem.F.excBase_ValueError PySem.F.excBase_ValueError (by kernel_rfl) rfl ?_
  with_reducible refine WE.str ?_
  exact fun e => hx e σ1 e1
/-- no team -/
def NoTeamV (w : World) (mean : ExcName → Option Value) (mg mb : Str → Option Value) (H : Nat) (v : MV) (σ : Hp) : Prop := ∀ (Q' : MV → Hp → Prop) (X' : EX) (ρ' : Lo) (sc' : Scope) (m : Nat), Q' (.bool false) σ → WFn (cx w mean mg mb) ⟨m + 1, true, sc'⟩ m_House_is_team [.ref H, v] ρ' Q' X' σ
theorem stand_noteam {H dw da : Nat} {tm : List Team} {ab : List (Str × Str)} {nm : Str} {u v : MV} (h : HouseD σ H dw da tm ab) (hz : nm.length ≤ 1000) (ha : nm.cps.all (· < 128) = true) (hn : goodN nm = true) (hm : nm ∉ ab.map (·.1)) (ht : ∀ σ', Extd σ σ' → NoTeamV w mean mg mb H u σ') (hx : ∀ e σ', Extd σ σ' → X false a_NoTeam e σ') : WFn (cx w mean mg mb) ⟨n + 2, true, sc⟩ m_House_stand [.ref H, .str nm, u, v] ρ Q X σ := by
  refine WFn.fn4X (p1 := "self") (p2 := "name") (p3 := "above") (p4 := "share") ⟨⟨_, _, _, _, _, _, _, _, _, _, _, _, _, (rfl : (Mine.hd.heap_39 w.params).lookup m_House_stand = _), by kernel_rfl, us4 fun _ _ _ _ => rfl⟩, by kernel_rfl⟩ ?_
  with_reducible refine WSs.cons ?_
  with_reducible refine WS.ite ?_
  with_reducible refine WT.not ?_
  with_reducible refine WT.plain (by with_unfolding_all (first | exact fun _ _ => rfl | exact fun _ _ _ => rfl)) ?_
  with_reducible refine WE.call rfl rfl ?_
  with_reducible refine WE.globalA (by kernel_rfl) g_is_name ?_
  with_reducible refine And.intro (Callee.fn fn_is_name) ?_
  with_reducible refine WEs.cons rfl ?_
  with_reducible refine WE.localA (by kernel_rfl) (by kernel_rfl) (by walk_at "lk") ?_
  with_reducible refine WEs.nil ?_
  refine WCall.of_fn (is_name_c hz ha fun σ1 e1 => ?_)
  rw [hn]
  have h2 := h.ext e1
  have hH := h2.hou
  have hdd := h2.das
  have hg := getK_noabove hm
  with_reducible refine WTr.bool ?_
  with_reducible refine if_nt ?_
  with_reducible refine WSs.nil ?_
  with_reducible refine WSs.cons ?_
  with_reducible refine WS.ite ?_
  with_reducible refine WT.cmp1 rfl ?_
  with_reducible refine WE.localA (by kernel_rfl) (by kernel_rfl) (by walk_at "lk") ?_
  with_reducible refine WE.attr (by with_unfolding_all (first | exact fun _ _ => rfl | exact fun _ _ _ => rfl)) ?_
  with_reducible refine WE.localA (by kernel_rfl) (by kernel_rfl) (by walk_at "lk") ?_
  with_reducible refine WGet.inst (by walk_at "hp") (by kernel_rfl) (by repeat (first | (with_reducible exact lk_head) | (with_reducible refine lk_tail (by kernel_rfl) ?_))) (by with_unfolding_all rfl) ?_
  with_reducible refine WC.inS_f (by walk_at "hp") (by with_reducible assumption) ?_
  with_reducible refine WTr.bool ?_
  with_reducible refine if_ff ?_
  with_reducible refine WSs.nil ?_
  with_reducible refine WSs.cons ?_
  with_reducible refine WS.ite ?_
  with_reducible refine WT.not ?_
  with_reducible refine WT.plain (by with_unfolding_all (first | exact fun _ _ => rfl | exact fun _ _ _ => rfl)) ?_
  with_reducible refine WE.method (by with_unfolding_all (first | exact fun _ _ => rfl | exact fun _ _ _ => rfl)) rfl rfl rfl ?_
  with_reducible refine WE.localA (by kernel_rfl) (by kernel_rfl) (by walk_at "lk") ?_
  with_reducible refine WM.inst (by walk_at "hp") ms_House_is_team (by kernel_rfl) ?_
  with_reducible refine And.intro (Callee.meth ms_House_is_team) ?_
  with_reducible refine WEs.cons rfl ?_
  with_reducible refine WE.localA (by kernel_rfl) (by kernel_rfl) (by walk_at "lk") ?_
  with_reducible refine WEs.nil ?_
  refine WCall.of_fn (ht σ1 e1 _ _ _ _ _ ?_)
  with_reducible refine WTr.bool ?_
  with_reducible refine if_nf ?_
  with_reducible refine WSs.cons ?_
  refine WS.raise rfl (by kernel_rfl) g_NoTeam (by kernel_rfl) PySem.F.excBase_ValueError PySem.F.excBase_ValueError (by kernel_rfl) rfl ?_
  with_reducible refine WE.str ?_
  exact fun e => hx e σ1 e1
theorem stand_badshare {H dw da : Nat} {tm : List Team} {ab : List (Str × Str)} {nm : Str} {t : Team} {v : MV} (h : HouseD σ H dw da tm ab) (hz : nm.length ≤ 1000) (ha : nm.cps.all (· < 128) = true) (hn : goodN nm = true) (hm : nm ∉ ab.map (·.1)) (ht : t ∈ tm) (hv : ∀ σ', Extd σ σ' → NoShare w mean mg mb σ' v) (hx : ∀ e σ', Extd σ σ' → X false a_BadShare e σ') : WFn (cx w mean mg mb) ⟨n + 3, true, sc⟩ m_House_stand [.ref H, .str nm, .str t.name, v] ρ Q X σ := by
  refine WFn.fn4X (p1 := "self") (p2 := "name") (p3 := "above") (p4 := "share") ⟨⟨_, _, _, _, _, _, _, _, _, _, _, _, _, (rfl : (Mine.hd.heap_39 w.params).lookup m_House_stand = _), by kernel_rfl, us4 fun _ _ _ _ => rfl⟩, by kernel_rfl⟩ ?_
  with_reducible refine WSs.cons ?_
  with_reducible refine WS.ite ?_
  with_reducible refine WT.not ?_
  with_reducible refine WT.plain (by with_unfolding_all (first | exact fun _ _ => rfl | exact fun _ _ _ => rfl)) ?_
  with_reducible refine WE.call rfl rfl ?_
  with_reducible refine WE.globalA (by kernel_rfl) g_is_name ?_
  with_reducible refine And.intro (Callee.fn fn_is_name) ?_
  with_reducible refine WEs.cons rfl ?_
  with_reducible refine WE.localA (by kernel_rfl) (by kernel_rfl) (by walk_at "lk") ?_
  with_reducible refine WEs.nil ?_
  refine WCall.of_fn (is_name_c hz ha fun σ1 e1 => ?_)
  rw [hn]
  have h2 := h.ext e1
  have hH := h2.hou
  have hdd := h2.das
  have hg := getK_noabove hm
  with_reducible refine WTr.bool ?_
  with_reducible refine if_nt ?_
  with_reducible refine WSs.nil ?_
  with_reducible refine WSs.cons ?_
  with_reducible refine WS.ite ?_
  with_reducible refine WT.cmp1 rfl ?_
  with_reducible refine WE.localA (by kernel_rfl) (by kernel_rfl) (by walk_at "lk") ?_
  with_reducible refine WE.attr (by with_unfolding_all (first | exact fun _ _ => rfl | exact fun _ _ _ => rfl)) ?_
  with_reducible refine WE.localA (by kernel_rfl) (by kernel_rfl) (by walk_at "lk") ?_
  with_reducible refine WGet.inst (by walk_at "hp") (by kernel_rfl) (by repeat (first | (with_reducible exact lk_head) | (with_reducible refine lk_tail (by kernel_rfl) ?_))) (by with_unfolding_all rfl) ?_
  with_reducible refine WC.inS_f (by walk_at "hp") (by with_reducible assumption) ?_
  with_reducible refine WTr.bool ?_
  with_reducible refine if_ff ?_
  with_reducible refine WSs.nil ?_
  with_reducible refine WSs.cons ?_
  with_reducible refine WS.ite ?_
  with_reducible refine WT.not ?_
  with_reducible refine WT.plain (by with_unfolding_all (first | exact fun _ _ => rfl | exact fun _ _ _ => rfl)) ?_
  with_reducible refine WE.method (by with_unfolding_all (first | exact fun _ _ => rfl | exact fun _ _ _ => rfl)) rfl rfl rfl ?_
  with_reducible refine WE.localA (by kernel_rfl) (by kernel_rfl) (by walk_at "lk") ?_
  with_reducible refine WM.inst (by walk_at "hp") ms_House_is_team (by kernel_rfl) ?_
  with_reducible refine And.intro (Callee.meth ms_House_is_team) ?_
  with_reducible refine WEs.cons rfl ?_
  with_reducible refine WE.localA (by kernel_rfl) (by kernel_rfl) (by walk_at "lk") ?_
  with_reducible refine WEs.nil ?_
  refine WCall.of_fn (is_team_yes h2 ht ?_)
  with_reducible refine WTr.bool ?_
  with_reducible refine if_nt ?_
  with_reducible refine WSs.nil ?_
  with_reducible refine WSs.cons ?_
  with_reducible refine WS.expr (by with_unfolding_all (first | exact fun _ _ => rfl | exact fun _ _ _ => rfl)) ?_
  with_reducible refine WE.call rfl rfl ?_
  with_reducible refine WE.globalA (by kernel_rfl) g_step ?_
  with_reducible refine And.intro (Callee.fn fn_step) ?_
  with_reducible refine WEs.cons rfl ?_
  with_reducible refine WE.localA (by kernel_rfl) (by kernel_rfl) (by walk_at "lk") ?_
  with_reducible refine WEs.nil ?_
  refine WCall.of_fn (step_bad (hv σ1 e1) fun e => ?_)
  exact hx e σ1 e1
theorem hand_ok {H dw da k : Nat} {tm : List Team} {ab : List (Str × Str)} {t : Team} {nm : Str} {share : Int} (h : HouseD σ H dw da tm ab) (hz : nm.length ≤ 1000) (ha : nm.cps.all (· < 128) = true) (hn : goodN nm = true) (hnew : nm ∉ ab.map (·.1)) (hk : tm[k]? = some t) (h0 : 1 ≤ share) (h1 : share ≤ 12) (hnt : nm ∉ t.l.map (·.name)) (hl : t.l.length ≤ 1000000) (hal : ab.length ≤ 1000000)
    (hq : ∀ a σ', HouseD σ' H dw da (tm.set k { t with l := t.l ++ [⟨nm, a, share, 0, false⟩] }) (ab ++ [(nm, t.name)]) → KpH σ σ' → Q .none σ') : WFn (cx w mean mg mb) ⟨n + 5, true, sc⟩ m_House_hand [.ref H, .str nm, .str t.name, .int share] ρ Q X σ := by
  have hH := h.hou
  refine WFn.fn4 (p1 := "self") (p2 := "name") (p3 := "above") (p4 := "share") ⟨⟨_, _, _, _, _, _, _, _, _, _, _, _, _, (rfl : (Mine.hd.heap_39 w.params).lookup m_House_hand = _), by kernel_rfl, us4 fun _ _ _ _ => rfl⟩, by kernel_rfl⟩ ?_
  with_reducible refine WSs.cons ?_
  with_reducible refine WS.expr (by with_unfolding_all (first | exact fun _ _ => rfl | exact fun _ _ _ => rfl)) ?_
  with_reducible refine WE.method (by with_unfolding_all (first | exact fun _ _ => rfl | exact fun _ _ _ => rfl)) rfl rfl rfl ?_
  with_reducible refine WE.localA (by kernel_rfl) (by kernel_rfl) (by walk_at "lk") ?_
  with_reducible refine WM.inst (by walk_at "hp") ms_House_stand (by kernel_rfl) ?_
  with_reducible refine And.intro (Callee.meth ms_House_stand) ?_
  with_reducible refine WEs.cons rfl ?_
  with_reducible refine WE.localA (by kernel_rfl) (by kernel_rfl) (by walk_at "lk") ?_
  with_reducible refine WEs.cons rfl ?_
  with_reducible refine WE.localA (by kernel_rfl) (by kernel_rfl) (by walk_at "lk") ?_
  with_reducible refine WEs.cons rfl ?_
  with_reducible refine WE.localA (by kernel_rfl) (by kernel_rfl) (by walk_at "lk") ?_
  with_reducible refine WEs.nil ?_
  refine WCall.of_fn (stand_ok h hz ha hn hnew hk h0 h1 hnt hl hal fun a σ' h' k' => ?_)
  with_reducible refine WSs.nil ?_
  exact hq a σ' h' k'
/-- whatever stand refuses, hand and team refuse -/
theorem hand_bad {H dw da : Nat} {tm : List Team} {ab : List (Str × Str)} {u u' v : MV} (h : HouseD σ H dw da tm ab) (hs : ∀ {Q' : MV → Hp → Prop} {ρ' : Lo} {sc' : Scope}, WFn (cx w mean mg mb) ⟨n + 4, true, sc'⟩ m_House_stand [.ref H, u, u', v] ρ' Q' (fun _ C e σ' => X false C e σ') σ) : WFn (cx w mean mg mb) ⟨n + 5, true, sc⟩ m_House_hand [.ref H, u, u', v] ρ Q X σ := by
  have hH := h.hou
  refine WFn.fn4X (p1 := "self") (p2 := "name") (p3 := "above") (p4 := "share") ⟨⟨_, _, _, _, _, _, _, _, _, _, _, _, _, (rfl : (Mine.hd.heap_39 w.params).lookup m_House_hand = _), by kernel_rfl, us4 fun _ _ _ _ => rfl⟩, by kernel_rfl⟩ ?_
  with_reducible refine WSs.cons ?_
  with_reducible refine WS.expr (by with_unfolding_all (first | exact fun _ _ => rfl | exact fun _ _ _ => rfl)) ?_
  with_reducible refine WE.method (by with_unfolding_all (first | exact fun _ _ => rfl | exact fun _ _ _ => rfl)) rfl rfl rfl ?_
  with_reducible refine WE.localA (by kernel_rfl) (by kernel_rfl) (by walk_at "lk") ?_
  with_reducible refine WM.inst (by walk_at "hp") ms_House_stand (by kernel_rfl) ?_
  with_reducible refine And.intro (Callee.meth ms_House_stand) ?_
  with_reducible refine WEs.cons rfl ?_
  with_reducible refine WE.localA (by kernel_rfl) (by kernel_rfl) (by walk_at "lk") ?_
  with_reducible refine WEs.cons rfl ?_
  with_reducible refine WE.localA (by kernel_rfl) (by kernel_rfl) (by walk_at "lk") ?_
  with_reducible refine WEs.cons rfl ?_
  with_reducible refine WE.localA (by kernel_rfl) (by kernel_rfl) (by walk_at "lk") ?_
  with_reducible refine WEs.nil ?_
  exact WCall.of_fn hs
theorem team_bad {H dw da : Nat} {tm : List Team} {ab : List (Str × Str)} {u u' v : MV} (h : HouseD σ H dw da tm ab) (hs : ∀ {Q' : MV → Hp → Prop} {ρ' : Lo} {sc' : Scope}, WFn (cx w mean mg mb) ⟨n + 4, true, sc'⟩ m_House_stand [.ref H, u, u', v] ρ' Q' (fun _ C e σ' => X false C e σ') σ) : WFn (cx w mean mg mb) ⟨n + 5, true, sc⟩ m_House_team [.ref H, u, u', v] ρ Q X σ := by
  have hH := h.hou
  refine WFn.fn4X (p1 := "self") (p2 := "name") (p3 := "above") (p4 := "share") ⟨⟨_, _, _, _, _, _, _, _, _, _, _, _, _, (rfl : (Mine.hd.heap_39 w.params).lookup m_House_team = _), by kernel_rfl, us4 fun _ _ _ _ => rfl⟩, by kernel_rfl⟩ ?_
  with_reducible refine WSs.cons ?_
  with_reducible refine WS.expr (by with_unfolding_all (first | exact fun _ _ => rfl | exact fun _ _ _ => rfl)) ?_
  with_reducible refine WE.method (by with_unfolding_all (first | exact fun _ _ => rfl | exact fun _ _ _ => rfl)) rfl rfl rfl ?_
  with_reducible refine WE.localA (by kernel_rfl) (by kernel_rfl) (by walk_at "lk") ?_
  with_reducible refine WM.inst (by walk_at "hp") ms_House_stand (by kernel_rfl) ?_
  with_reducible refine And.intro (Callee.meth ms_House_stand) ?_
  with_reducible refine WEs.cons rfl ?_
  with_reducible refine WE.localA (by kernel_rfl) (by kernel_rfl) (by walk_at "lk") ?_
  with_reducible refine WEs.cons rfl ?_
  with_reducible refine WE.localA (by kernel_rfl) (by kernel_rfl) (by walk_at "lk") ?_
  with_reducible refine WEs.cons rfl ?_
  with_reducible refine WE.localA (by kernel_rfl) (by kernel_rfl) (by walk_at "lk") ?_
  with_reducible refine WEs.nil ?_
  exact WCall.of_fn hs
theorem team_ok (g : Nat) (hg : 100 ≤ g) {H dw da k : Nat} {tm : List Team} {ab : List (Str × Str)} {t : Team} {nm : Str} {share : Int} (h : HouseD σ H dw da tm ab) (hgn : g ∉ tm.map (·.g)) (hz : nm.length ≤ 1000) (ha : nm.cps.all (· < 128) = true) (hn : goodN nm = true) (hnew : nm ∉ ab.map (·.1)) (hntm : nm ∉ tm.map (·.name)) (hk : tm[k]? = some t) (h0 : 1 ≤ share) (h1 : share ≤ 12) (hnt : nm ∉ t.l.map (·.name)) (hl : t.l.length ≤ 1000000) (hal : ab.length ≤ 1000000) (htl : tm.length ≤ 1000000)
    (hq : ∀ a W d σ', HouseD σ' H dw da (tm.set k { t with l := t.l ++ [⟨nm, a, share, 0, false⟩] } ++ [⟨nm, W, d, g, 0, []⟩]) (ab ++ [(nm, t.name)]) → KpH σ σ' → Q .none σ') : WFn (cx w mean mg mb) ⟨n + 5, true, sc⟩ m_House_team [.ref H, .str nm, .str t.name, .int share] ρ Q X σ := by
  have hH := h.hou
  refine WFn.fn4 (p1 := "self") (p2 := "name") (p3 := "above") (p4 := "share") ⟨⟨_, _, _, _, _, _, _, _, _, _, _, _, _, (rfl : (Mine.hd.heap_39 w.params).lookup m_House_team = _), by kernel_rfl, us4 fun _ _ _ _ => rfl⟩, by kernel_rfl⟩ ?_
  with_reducible refine WSs.cons ?_
  with_reducible refine WS.expr (by with_unfolding_all (first | exact fun _ _ => rfl | exact fun _ _ _ => rfl)) ?_
  with_reducible refine WE.method (by with_unfolding_all (first | exact fun _ _ => rfl | exact fun _ _ _ => rfl)) rfl rfl rfl ?_
  with_reducible refine WE.localA (by kernel_rfl) (by kernel_rfl) (by walk_at "lk") ?_
  with_reducible refine WM.inst (by walk_at "hp") ms_House_stand (by kernel_rfl) ?_
  with_reducible refine And.intro (Callee.meth ms_House_stand) ?_
  with_reducible refine WEs.cons rfl ?_
  with_reducible refine WE.localA (by kernel_rfl) (by kernel_rfl) (by walk_at "lk") ?_
  with_reducible refine WEs.cons rfl ?_
  with_reducible refine WE.localA (by kernel_rfl) (by kernel_rfl) (by walk_at "lk") ?_
  with_reducible refine WEs.cons rfl ?_
  with_reducible refine WE.localA (by kernel_rfl) (by kernel_rfl) (by walk_at "lk") ?_
  with_reducible refine WEs.nil ?_
  refine WCall.of_fn (stand_ok h hz ha hn hnew hk h0 h1 hnt hl hal fun a σ1 h1' k1 => ?_)
  have en : (tm.set k { t with l := t.l ++ [⟨nm, a, share, 0, false⟩] }).map (·.name) = tm.map (·.name) := map_set_same _ hk rfl
  have eg : (tm.set k { t with l := t.l ++ [⟨nm, a, share, 0, false⟩] }).map (·.g) = tm.map (·.g) := map_set_same _ hk rfl
  have el : (tm.set k { t with l := t.l ++ [⟨nm, a, share, 0, false⟩] }).length = tm.length := List.length_set ..
  have hq' := hq a
  clear hq
  generalize tm.set k { t with l := t.l ++ [⟨nm, a, share, 0, false⟩] } = tm2 at h1' en eg el hq'
  generalize ab ++ [(nm, t.name)] = ab2 at h1' hq'
  with_reducible refine WSs.cons ?_
  with_reducible refine WS.setItem (by with_unfolding_all (first | exact fun _ _ => rfl | exact fun _ _ _ => rfl)) ?_
  with_reducible refine WE.call rfl rfl ?_
  with_reducible refine WE.globalA (by kernel_rfl) g_Wheel ?_
  with_reducible refine And.intro (Callee.cls mi_Wheel) ?_
  with_reducible refine WEs.nil ?_
  refine WCall.of_fn (make_wheelF g fun W d σ2 n1 n2 hw e2 => ?_)
  have h2 := h1'.ext e2
  have hH2 := h2.hou
  have hd2 := h2.dws
  with_reducible refine WE.attr (by with_unfolding_all (first | exact fun _ _ => rfl | exact fun _ _ _ => rfl)) ?_
  with_reducible refine WE.localA (by kernel_rfl) (by kernel_rfl) (by walk_at "lk") ?_
  with_reducible refine WGet.inst (by walk_at "hp") (by kernel_rfl) (by repeat (first | (with_reducible exact lk_head) | (with_reducible refine lk_tail (by kernel_rfl) ?_))) (by with_unfolding_all rfl) ?_
  with_reducible refine WE.localA (by kernel_rfl) (by kernel_rfl) (by walk_at "lk") ?_
  refine WPut.sdict hd2 (by simpa [tents, el] using htl) ?_
  rw [putK_no (by rw [tents_names, en]; exact hntm)]
  with_reducible refine WSs.nil ?_
  have et : tents (tm2 ++ [⟨nm, W, d, g, 0, []⟩]) = tents tm2 ++ [(nm, .ref W)] := by simp [tents]
  rw [← et]
  have hg1 : g ≠ 1 := by omega
  refine hq' W d _ ⟨Hp.ne (fun q => ?_) hH2, Hp.self, Hp.ne (Ne.symm h2.dd) h2.das, fun u hu => ?_, ?_, ?_, fun u hu => ?_, h2.an, h2.dd⟩ fun b t' o q m1 m100 => Hp.tag hd2 m1 (e2 _ _ (k1 b t' o q m1 m100))
  · rw [q, hd2] at hH2; exact nomatch hH2
  · rcases List.mem_append.mp hu with hu | hu
    · exact (h2.whl u hu).keep (Kpt.put hd2 (by have := h2.gg u hu; omega))
    · rw [List.mem_singleton.mp hu]; exact hw.keep (Kpt.put hd2 hg1)
  · rw [List.map_append, en]
    refine List.nodup_append.mpr ⟨h.tn, by simp, fun x hx y hy q => ?_⟩
    have e2 : y = nm := by simpa using hy
    exact hntm (e2 ▸ q ▸ hx)
  · rw [List.map_append, eg]
    refine List.nodup_append.mpr ⟨h.tg, by simp, fun x hx y hy q => ?_⟩
    have e2 : y = g := by simpa using hy
    exact hgn (e2 ▸ q ▸ hx)
  · rcases List.mem_append.mp hu with hu | hu
    · exact h2.gg u hu
    · rw [List.mem_singleton.mp hu]; exact hg
theorem reshare_h {H dw da k j : Nat} {tm : List Team} {ab : List (Str × Str)} {t : Team} {x : Shr} {share : Int} (h : HouseD σ H dw da tm ab) (hk : tm[k]? = some t) (hm : (x.name, t.name) ∈ ab) (hj : t.l[j]? = some x) (h0 : 1 ≤ share) (h1 : share ≤ 12) (g0 : 1 ≤ x.share) (g1 : x.share ≤ 12)
    (hq : ∀ σ', HouseD σ' H dw da (tm.set k { t with l := t.l.set j (shared t.past share x) }) ab → KpH σ σ' → Q .none σ') : WFn (cx w mean mg mb) ⟨n + 4, true, sc⟩ m_House_reshare [.ref H, .str x.name, .int share] ρ Q X σ := by
  have hH := h.hou
  have hd := h.dws
  have hmt := List.mem_of_getElem? hk
  have hgt := getK_team h hmt
  have hwt := h.whl t hmt
  have hW : σ t.W = some (t.g, .inst a_Wheel [("past", .int t.past), ("sharers", .ref t.d)]) := hwt.whl
  refine WFn.fn3 (p1 := "self") (p2 := "name") (p3 := "share") ⟨⟨_, _, _, _, _, _, _, _, _, _, _, _, _, (rfl : (Mine.hd.heap_39 w.params).lookup m_House_reshare = _), by kernel_rfl, us3 fun _ _ _ => rfl⟩, by kernel_rfl⟩ ?_
  with_reducible refine WSs.cons ?_
  with_reducible refine WS.expr (by with_unfolding_all (first | exact fun _ _ => rfl | exact fun _ _ _ => rfl)) ?_
  with_reducible refine WE.method (by with_unfolding_all (first | exact fun _ _ => rfl | exact fun _ _ _ => rfl)) rfl rfl rfl ?_
  with_reducible refine WE.sub ?_
  with_reducible refine WE.attr (by with_unfolding_all (first | exact fun _ _ => rfl | exact fun _ _ _ => rfl)) ?_
  with_reducible refine WE.localA (by kernel_rfl) (by kernel_rfl) (by walk_at "lk") ?_
  with_reducible refine WGet.inst (by walk_at "hp") (by kernel_rfl) (by repeat (first | (with_reducible exact lk_head) | (with_reducible refine lk_tail (by kernel_rfl) ?_))) (by with_unfolding_all rfl) ?_
  with_reducible refine WE.method (by with_unfolding_all (first | exact fun _ _ => rfl | exact fun _ _ _ => rfl)) rfl rfl rfl ?_
  with_reducible refine WE.localA (by kernel_rfl) (by kernel_rfl) (by walk_at "lk") ?_
  with_reducible refine WM.inst (by walk_at "hp") ms_House_need (by kernel_rfl) ?_
  with_reducible refine And.intro (Callee.meth ms_House_need) ?_
  with_reducible refine WEs.cons rfl ?_
  with_reducible refine WE.localA (by kernel_rfl) (by kernel_rfl) (by walk_at "lk") ?_
  with_reducible refine WEs.nil ?_
  refine WCall.of_fn (hneed_c h hm ?_)
  with_reducible refine WSub.sdict (by with_unfolding_all (first | exact fun _ _ => rfl | exact fun _ _ _ => rfl)) (by walk_at "hp") (by with_reducible assumption) ?_
  with_reducible refine WM.inst (by walk_at "hp") ms_Wheel_reshare (by kernel_rfl) ?_
  with_reducible refine And.intro (Callee.meth ms_Wheel_reshare) ?_
  with_reducible refine WEs.cons rfl ?_
  with_reducible refine WE.localA (by kernel_rfl) (by kernel_rfl) (by walk_at "lk") ?_
  with_reducible refine WEs.cons rfl ?_
  with_reducible refine WE.localA (by kernel_rfl) (by kernel_rfl) (by walk_at "lk") ?_
  with_reducible refine WEs.nil ?_
  refine WCall.of_fn (reshare_c hwt hj h0 h1 g0 g1 fun σ1 h1' o1 => ?_)
  with_reducible refine WSs.nil ?_
  exact hq σ1 (h.one (t' := { t with l := t.l.set j (shared t.past share x) }) hk rfl rfl rfl h1' o1) fun b t' o q m1 m100 => o1.at q (by have := h.gg t hmt; omega)
theorem reshare_hno {H dw da : Nat} {tm : List Team} {ab : List (Str × Str)} {u v : MV} (h : HouseD σ H dw da tm ab) (hs : ∀ {Q' : MV → Hp → Prop} {ρ' : Lo} {sc' : Scope}, WFn (cx w mean mg mb) ⟨n + 3, true, sc'⟩ m_House_need [.ref H, u] ρ' Q' (fun _ C e σ' => X false C e σ') σ) : WFn (cx w mean mg mb) ⟨n + 4, true, sc⟩ m_House_reshare [.ref H, u, v] ρ Q X σ := by
  have hH := h.hou
  refine WFn.fn3X (p1 := "self") (p2 := "name") (p3 := "share") ⟨⟨_, _, _, _, _, _, _, _, _, _, _, _, _, (rfl : (Mine.hd.heap_39 w.params).lookup m_House_reshare = _), by kernel_rfl, us3 fun _ _ _ => rfl⟩, by kernel_rfl⟩ ?_
  with_reducible refine WSs.cons ?_
  with_reducible refine WS.expr (by with_unfolding_all (first | exact fun _ _ => rfl | exact fun _ _ _ => rfl)) ?_
  with_reducible refine WE.method (by with_unfolding_all (first | exact fun _ _ => rfl | exact fun _ _ _ => rfl)) rfl rfl rfl ?_
  with_reducible refine WE.sub ?_
  with_reducible refine WE.attr (by with_unfolding_all (first | exact fun _ _ => rfl | exact fun _ _ _ => rfl)) ?_
  with_reducible refine WE.localA (by kernel_rfl) (by kernel_rfl) (by walk_at "lk") ?_
  with_reducible refine WGet.inst (by walk_at "hp") (by kernel_rfl) (by repeat (first | (with_reducible exact lk_head) | (with_reducible refine lk_tail (by kernel_rfl) ?_))) (by with_unfolding_all rfl) ?_
  with_reducible refine WE.method (by with_unfolding_all (first | exact fun _ _ => rfl | exact fun _ _ _ => rfl)) rfl rfl rfl ?_
  with_reducible refine WE.localA (by kernel_rfl) (by kernel_rfl) (by walk_at "lk") ?_
  with_reducible refine WM.inst (by walk_at "hp") ms_House_need (by kernel_rfl) ?_
  with_reducible refine And.intro (Callee.meth ms_House_need) ?_
  with_reducible refine WEs.cons rfl ?_
  with_reducible refine WE.localA (by kernel_rfl) (by kernel_rfl) (by walk_at "lk") ?_
  with_reducible refine WEs.nil ?_
  exact WCall.of_fn hs
theorem reshare_hbad {H dw da k j : Nat} {tm : List Team} {ab : List (Str × Str)} {t : Team} {x : Shr} {v : MV} (h : HouseD σ H dw da tm ab) (hk : tm[k]? = some t) (hm : (x.name, t.name) ∈ ab) (hj : t.l[j]? = some x) (hv : NoShare w mean mg mb σ v)
    (hx : ∀ e, X false a_BadShare e σ) : WFn (cx w mean mg mb) ⟨n + 4, true, sc⟩ m_House_reshare [.ref H, .str x.name, v] ρ Q X σ := by
  have hH := h.hou
  have hd := h.dws
  have hmt := List.mem_of_getElem? hk
  have hgt := getK_team h hmt
  have hwt := h.whl t hmt
  have hW : σ t.W = some (t.g, .inst a_Wheel [("past", .int t.past), ("sharers", .ref t.d)]) := hwt.whl
  refine WFn.fn3X (p1 := "self") (p2 := "name") (p3 := "share") ⟨⟨_, _, _, _, _, _, _, _, _, _, _, _, _, (rfl : (Mine.hd.heap_39 w.params).lookup m_House_reshare = _), by kernel_rfl, us3 fun _ _ _ => rfl⟩, by kernel_rfl⟩ ?_
  with_reducible refine WSs.cons ?_
  with_reducible refine WS.expr (by with_unfolding_all (first | exact fun _ _ => rfl | exact fun _ _ _ => rfl)) ?_
  with_reducible refine WE.method (by with_unfolding_all (first | exact fun _ _ => rfl | exact fun _ _ _ => rfl)) rfl rfl rfl ?_
  with_reducible refine WE.sub ?_
  with_reducible refine WE.attr (by with_unfolding_all (first | exact fun _ _ => rfl | exact fun _ _ _ => rfl)) ?_
  with_reducible refine WE.localA (by kernel_rfl) (by kernel_rfl) (by walk_at "lk") ?_
  with_reducible refine WGet.inst (by walk_at "hp") (by kernel_rfl) (by repeat (first | (with_reducible exact lk_head) | (with_reducible refine lk_tail (by kernel_rfl) ?_))) (by with_unfolding_all rfl) ?_
  with_reducible refine WE.method (by with_unfolding_all (first | exact fun _ _ => rfl | exact fun _ _ _ => rfl)) rfl rfl rfl ?_
  with_reducible refine WE.localA (by kernel_rfl) (by kernel_rfl) (by walk_at "lk") ?_
  with_reducible refine WM.inst (by walk_at "hp") ms_House_need (by kernel_rfl) ?_
  with_reducible refine And.intro (Callee.meth ms_House_need) ?_
  with_reducible refine WEs.cons rfl ?_
  with_reducible refine WE.localA (by kernel_rfl) (by kernel_rfl) (by walk_at "lk") ?_
  with_reducible refine WEs.nil ?_
  refine WCall.of_fn (hneed_c h hm ?_)
  with_reducible refine WSub.sdict (by with_unfolding_all (first | exact fun _ _ => rfl | exact fun _ _ _ => rfl)) (by walk_at "hp") (by with_reducible assumption) ?_
  with_reducible refine WM.inst (by walk_at "hp") ms_Wheel_reshare (by kernel_rfl) ?_
  with_reducible refine And.intro (Callee.meth ms_Wheel_reshare) ?_
  with_reducible refine WEs.cons rfl ?_
  with_reducible refine WE.localA (by kernel_rfl) (by kernel_rfl) (by walk_at "lk") ?_
  with_reducible refine WEs.cons rfl ?_
  with_reducible refine WE.localA (by kernel_rfl) (by kernel_rfl) (by walk_at "lk") ?_
  with_reducible refine WEs.nil ?_
  exact WCall.of_fn (reshare_bad hwt hj hv hx)
theorem wheel_of_ok (t' : Nat) {H dw da : Nat} {tm : List Team} {ab : List (Str × Str)} {t : Team} (h : HouseD σ H dw da tm ab) (ht : t ∈ tm) (hl : t.l.length ≤ 1000000)
    (hq : ∀ W' d' l' σ', WheelD σ' W' d' t' t.past l' → l'.map core = t.l.map core → Extd σ σ' → Q (.ref W') σ') : WFn (cx w mean mg mb) ⟨n + 4, true, sc⟩ m_House_wheel_of [.ref H, .str t.name] ρ Q X σ := by
  have hH := h.hou
  have hd := h.dws
  have hgt := getK_team h ht
  have hwt := h.whl t ht
  have hW : σ t.W = some (t.g, .inst a_Wheel [("past", .int t.past), ("sharers", .ref t.d)]) := hwt.whl
  refine WFn.fn2 (p1 := "self") (p2 := "team") ⟨⟨_, _, _, _, _, _, _, _, _, _, _, _, _, (rfl : (Mine.hd.heap_39 w.params).lookup m_House_wheel_of = _), by kernel_rfl, us2 fun _ _ => rfl⟩, by kernel_rfl⟩ ?_
  with_reducible refine WSs.cons ?_
  with_reducible refine WS.ite ?_
  with_reducible refine WT.not ?_
  with_reducible refine WT.plain (by with_unfolding_all (first | exact fun _ _ => rfl | exact fun _ _ _ => rfl)) ?_
  with_reducible refine WE.method (by with_unfolding_all (first | exact fun _ _ => rfl | exact fun _ _ _ => rfl)) rfl rfl rfl ?_
  with_reducible refine WE.localA (by kernel_rfl) (by kernel_rfl) (by walk_at "lk") ?_
  with_reducible refine WM.inst (by walk_at "hp") ms_House_is_team (by kernel_rfl) ?_
  with_reducible refine And.intro (Callee.meth ms_House_is_team) ?_
  with_reducible refine WEs.cons rfl ?_
  with_reducible refine WE.localA (by kernel_rfl) (by kernel_rfl) (by walk_at "lk") ?_
  with_reducible refine WEs.nil ?_
  refine WCall.of_fn (is_team_yes h ht ?_)
  with_reducible refine WTr.bool ?_
  with_reducible refine if_nt ?_
  with_reducible refine WSs.nil ?_
  with_reducible refine WSs.cons ?_
  with_reducible refine WS.ret ?_
  with_reducible refine WE.method (by with_unfolding_all (first | exact fun _ _ => rfl | exact fun _ _ _ => rfl)) rfl rfl rfl ?_
  with_reducible refine WE.sub ?_
  with_reducible refine WE.attr (by with_unfolding_all (first | exact fun _ _ => rfl | exact fun _ _ _ => rfl)) ?_
  with_reducible refine WE.localA (by kernel_rfl) (by kernel_rfl) (by walk_at "lk") ?_
  with_reducible refine WGet.inst (by walk_at "hp") (by kernel_rfl) (by repeat (first | (with_reducible exact lk_head) | (with_reducible refine lk_tail (by kernel_rfl) ?_))) (by with_unfolding_all rfl) ?_
  with_reducible refine WE.localA (by kernel_rfl) (by kernel_rfl) (by walk_at "lk") ?_
  with_reducible refine WSub.sdict (by with_unfolding_all (first | exact fun _ _ => rfl | exact fun _ _ _ => rfl)) (by walk_at "hp") (by with_reducible assumption) ?_
  with_reducible refine WM.inst (by walk_at "hp") ms_Wheel_copied (by kernel_rfl) ?_
  with_reducible refine And.intro (Callee.meth ms_Wheel_copied) ?_
  with_reducible refine WEs.nil ?_
  refine WCall.of_fn (copied_c t' hwt hl fun W' d' l' σ' n' w' c' e' => ?_)
  skip
  exact hq W' d' l' σ' w' c' e'
theorem wheel_of_no {H dw da : Nat} {tm : List Team} {ab : List (Str × Str)} {u : MV} (h : HouseD σ H dw da tm ab) (ht : NoTeamV w mean mg mb H u σ) (hx : ∀ e, X false a_NoTeam e σ) : WFn (cx w mean mg mb) ⟨n + 4, true, sc⟩ m_House_wheel_of [.ref H, u] ρ Q X σ := by
  have hH := h.hou
  refine WFn.fn2X (p1 := "self") (p2 := "team") ⟨⟨_, _, _, _, _, _, _, _, _, _, _, _, _, (rfl : (Mine.hd.heap_39 w.params).lookup m_House_wheel_of = _), by kernel_rfl, us2 fun _ _ => rfl⟩, by kernel_rfl⟩ ?_
  with_reducible refine WSs.cons ?_
  with_reducible refine WS.ite ?_
  with_reducible refine WT.not ?_
  with_reducible refine WT.plain (by with_unfolding_all (first | exact fun _ _ => rfl | exact fun _ _ _ => rfl)) ?_
  with_reducible refine WE.method (by with_unfolding_all (first | exact fun _ _ => rfl | exact fun _ _ _ => rfl)) rfl rfl rfl ?_
  with_reducible refine WE.localA (by kernel_rfl) (by kernel_rfl) (by walk_at "lk") ?_
  with_reducible refine WM.inst (by walk_at "hp") ms_House_is_team (by kernel_rfl) ?_
  with_reducible refine And.intro (Callee.meth ms_House_is_team) ?_
  with_reducible refine WEs.cons rfl ?_
  with_reducible refine WE.localA (by kernel_rfl) (by kernel_rfl) (by walk_at "lk") ?_
  with_reducible refine WEs.nil ?_
  refine WCall.of_fn (ht _ _ _ _ _ ?_)
  with_reducible refine WTr.bool ?_
  with_reducible refine if_nf ?_
  with_reducible refine WSs.cons ?_
  refine WS.raise rfl (by kernel_rfl) g_NoTeam (by kernel_rfl) PySem.F.excBase_ValueError PySem.F.excBase_ValueError (by kernel_rfl) rfl ?_
  with_reducible refine WE.str ?_
  exact hx
theorem NoTeamV.str {H dw da : Nat} {tm : List Team} {ab : List (Str × Str)} {nm : Str} (h : HouseD σ H dw da tm ab) (hn : nm ∉ tm.map (·.name)) : NoTeamV w mean mg mb H (.str nm) σ := fun _ _ _ _ _ q => is_team_no h hn q
theorem NoTeamV.odd {H : Nat} {v : MV} {t : Value} (kd : KindOf σ v t) (ks : kitOne (cx w mean mg mb).K t (.type "str") = some false) : NoTeamV w mean mg mb H v σ := fun _ _ _ _ _ q => is_team_odd kd ks q
theorem rest_idle {H dw da k j : Nat} {tm : List Team} {ab : List (Str × Str)} {t : Team} {x : Shr} (h : HouseD σ H dw da tm ab) (hk : tm[k]? = some t) (hm : (x.name, t.name) ∈ ab) (hn : x.name ∉ tm.map (·.name)) (hj : t.l[j]? = some x) (hr : x.ready = false)
    (hq : ∀ σ', HouseD σ' H dw da tm ab → KpH σ σ' → Q (.bool false) σ') : WFn (cx w mean mg mb) ⟨n + 3, true, sc⟩ m_House_rest [.ref H, .str x.name] ρ Q X σ := by
  have hH := h.hou
  have hd := h.dws
  have hmt := List.mem_of_getElem? hk
  have hgt := getK_team h hmt
  have hwt := h.whl t hmt
  have hW : σ t.W = some (t.g, .inst a_Wheel [("past", .int t.past), ("sharers", .ref t.d)]) := hwt.whl
  refine WFn.fn2 (p1 := "self") (p2 := "name") ⟨⟨_, _, _, _, _, _, _, _, _, _, _, _, _, (rfl : (Mine.hd.heap_39 w.params).lookup m_House_rest = _), by kernel_rfl, us2 fun _ _ => rfl⟩, by kernel_rfl⟩ ?_
  with_reducible refine WSs.cons ?_
  with_reducible refine WS.assign (by with_unfolding_all (first | exact fun _ _ => rfl | exact fun _ _ _ => rfl)) ?_
  with_reducible refine WE.method (by with_unfolding_all (first | exact fun _ _ => rfl | exact fun _ _ _ => rfl)) rfl rfl rfl ?_
  with_reducible refine WE.localA (by kernel_rfl) (by kernel_rfl) (by walk_at "lk") ?_
  with_reducible refine WM.inst (by walk_at "hp") ms_House_need_hand (by kernel_rfl) ?_
  with_reducible refine And.intro (Callee.meth ms_House_need_hand) ?_
  with_reducible refine WEs.cons rfl ?_
  with_reducible refine WE.localA (by kernel_rfl) (by kernel_rfl) (by walk_at "lk") ?_
  with_reducible refine WEs.nil ?_
  refine WCall.of_fn (need_hand_c h hm hn ?_)
  with_reducible refine WSt.localA (by kernel_rfl) ?_
  with_reducible refine WSs.cons ?_
  with_reducible refine WS.ite ?_
  with_reducible refine WT.not ?_
  with_reducible refine WT.plain (by with_unfolding_all (first | exact fun _ _ => rfl | exact fun _ _ _ => rfl)) ?_
  with_reducible refine WE.method (by with_unfolding_all (first | exact fun _ _ => rfl | exact fun _ _ _ => rfl)) rfl rfl rfl ?_
  with_reducible refine WE.sub ?_
  with_reducible refine WE.attr (by with_unfolding_all (first | exact fun _ _ => rfl | exact fun _ _ _ => rfl)) ?_
  with_reducible refine WE.localA (by kernel_rfl) (by kernel_rfl) (by walk_at "lk") ?_
  with_reducible refine WGet.inst (by walk_at "hp") (by kernel_rfl) (by repeat (first | (with_reducible exact lk_head) | (with_reducible refine lk_tail (by kernel_rfl) ?_))) (by with_unfolding_all rfl) ?_
  with_reducible refine WE.localA (by kernel_rfl) (by kernel_rfl) (by walk_at "lk") ?_
  with_reducible refine WSub.sdict (by with_unfolding_all (first | exact fun _ _ => rfl | exact fun _ _ _ => rfl)) (by walk_at "hp") (by with_reducible assumption) ?_
  with_reducible refine WM.inst (by walk_at "hp") ms_Wheel_rest (by kernel_rfl) ?_
  with_reducible refine And.intro (Callee.meth ms_Wheel_rest) ?_
  with_reducible refine WEs.cons rfl ?_
  with_reducible refine WE.localA (by kernel_rfl) (by kernel_rfl) (by walk_at "lk") ?_
  with_reducible refine WEs.nil ?_
  refine WCall.of_fn (rest_c hwt hj fun σ1 h1 o1 => ?_)
  rw [hr]
  have ex : ({ x with ready := false } : Shr) = x := by cases x; simp at hr; subst hr; rfl
  rw [ex, set_same hj] at h1
  with_reducible refine WTr.bool ?_
  with_reducible refine if_nf ?_
  with_reducible refine WSs.cons ?_
  with_reducible refine WS.ret ?_
  with_reducible refine WE.bool ?_
  refine hq σ1 ?_ fun b t' o q m1 m100 => o1.at q (by have := h.gg t hmt; omega)
  have := h.one (t' := t) hk rfl rfl rfl h1 o1
  rwa [set_same hk] at this
theorem delK_tents (tm : List Team) (nm : Str) : delK (tents tm) nm = tents (tm.filter fun u => decide (u.name ≠ nm)) := by
  unfold delK tents
  rw [List.filter_map]
  rfl
theorem delK_aents (ab : List (Str × Str)) (nm : Str) : delK (aents ab) nm = aents (ab.filter fun p => decide (p.1 ≠ nm)) := by
  unfold delK aents
  rw [List.filter_map]
  rfl
theorem HouseD.popT {σ : Hp} {H dw da : Nat} {tm : List Team} {ab : List (Str × Str)} (h : HouseD σ H dw da tm ab) (nm : Str) : HouseD (σ.put dw 1 (.sdict (tents (tm.filter fun u => decide (u.name ≠ nm))))) H dw da (tm.filter fun u => decide (u.name ≠ nm)) ab := by
  have sub : (tm.filter fun u => decide (u.name ≠ nm)).Sublist tm := List.filter_sublist
  refine ⟨Hp.ne (fun q => ?_) h.hou, Hp.self, Hp.ne (Ne.symm h.dd) h.das, fun u hu => (h.whl u (sub.subset hu)).keep (Kpt.put h.dws (by have := h.gg u (sub.subset hu); omega)), List.Nodup.sublist (sub.map _) h.tn, List.Nodup.sublist (sub.map _) h.tg, fun u hu => h.gg u (sub.subset hu), h.an, h.dd⟩
  have hH := h.hou
  rw [q, h.dws] at hH; exact nomatch hH
theorem HouseD.popA {σ : Hp} {H dw da : Nat} {tm : List Team} {ab : List (Str × Str)} (h : HouseD σ H dw da tm ab) (nm : Str) : HouseD (σ.put da 1 (.sdict (aents (ab.filter fun p => decide (p.1 ≠ nm))))) H dw da tm (ab.filter fun p => decide (p.1 ≠ nm)) := by
  have sub : (ab.filter fun p => decide (p.1 ≠ nm)).Sublist ab := List.filter_sublist
  refine ⟨Hp.ne (fun q => ?_) h.hou, Hp.ne h.dd h.dws, Hp.self, fun u hu => (h.whl u hu).keep (Kpt.put h.das (by have := h.gg u hu; omega)), h.tn, h.tg, h.gg, List.Nodup.sublist (sub.map _) h.an, h.dd⟩
  have hH := h.hou
  rw [q, h.das] at hH; exact nomatch hH
theorem leave_hand {H dw da k j : Nat} {tm : List Team} {ab : List (Str × Str)} {t : Team} {x : Shr} (h : HouseD σ H dw da tm ab) (hk : tm[k]? = some t) (hm : (x.name, t.name) ∈ ab) (hn : x.name ∉ tm.map (·.name)) (hj : t.l[j]? = some x) (hr : x.ready = false) (hl : t.l.length ≤ 1000000) (hal : ab.length ≤ 1000000)
    (hq : ∀ σ', HouseD σ' H dw da (tm.set k { t with l := t.l.eraseIdx j }) (ab.filter fun p => decide (p.1 ≠ x.name)) → KpH σ σ' → Q .none σ') : WFn (cx w mean mg mb) ⟨n + 4, true, sc⟩ m_House_leave [.ref H, .str x.name] ρ Q X σ := by
  have hH := h.hou
  have hd := h.dws
  have hg0 := getK_noteam hn
  refine WFn.fn2 (p1 := "self") (p2 := "name") ⟨⟨_, _, _, _, _, _, _, _, _, _, _, _, _, (rfl : (Mine.hd.heap_39 w.params).lookup m_House_leave = _), by kernel_rfl, us2 fun _ _ => rfl⟩, by kernel_rfl⟩ ?_
  with_reducible refine WSs.cons ?_
  with_reducible refine WS.assign (by with_unfolding_all (first | exact fun _ _ => rfl | exact fun _ _ _ => rfl)) ?_
  with_reducible refine WE.method (by with_unfolding_all (first | exact fun _ _ => rfl | exact fun _ _ _ => rfl)) rfl rfl rfl ?_
  with_reducible refine WE.localA (by kernel_rfl) (by kernel_rfl) (by walk_at "lk") ?_
  with_reducible refine WM.inst (by walk_at "hp") ms_House_need (by kernel_rfl) ?_
  with_reducible refine And.intro (Callee.meth ms_House_need) ?_
  with_reducible refine WEs.cons rfl ?_
  with_reducible refine WE.localA (by kernel_rfl) (by kernel_rfl) (by walk_at "lk") ?_
  with_reducible refine WEs.nil ?_
  refine WCall.of_fn (hneed_c h hm ?_)
  with_reducible refine WSt.localA (by kernel_rfl) ?_
  with_reducible refine WSs.cons ?_
  with_reducible refine WS.ite ?_
  with_reducible refine WT.cmp1 rfl ?_
  with_reducible refine WE.localA (by kernel_rfl) (by kernel_rfl) (by walk_at "lk") ?_
  with_reducible refine WE.attr (by with_unfolding_all (first | exact fun _ _ => rfl | exact fun _ _ _ => rfl)) ?_
  with_reducible refine WE.localA (by kernel_rfl) (by kernel_rfl) (by walk_at "lk") ?_
  with_reducible refine WGet.inst (by walk_at "hp") (by kernel_rfl) (by repeat (first | (with_reducible exact lk_head) | (with_reducible refine lk_tail (by kernel_rfl) ?_))) (by with_unfolding_all rfl) ?_
  with_reducible refine WC.inS_f (by walk_at "hp") (by with_reducible assumption) ?_
  with_reducible refine WTr.bool ?_
  with_reducible refine if_ff ?_
  with_reducible refine WSs.cons ?_
  with_reducible refine WS.expr (by with_unfolding_all (first | exact fun _ _ => rfl | exact fun _ _ _ => rfl)) ?_
  with_reducible refine WE.method (by with_unfolding_all (first | exact fun _ _ => rfl | exact fun _ _ _ => rfl)) rfl rfl rfl ?_
  with_reducible refine WE.localA (by kernel_rfl) (by kernel_rfl) (by walk_at "lk") ?_
  with_reducible refine WM.inst (by walk_at "hp") ms_House_rest (by kernel_rfl) ?_
  with_reducible refine And.intro (Callee.meth ms_House_rest) ?_
  with_reducible refine WEs.cons rfl ?_
  with_reducible refine WE.localA (by kernel_rfl) (by kernel_rfl) (by walk_at "lk") ?_
  with_reducible refine WEs.nil ?_
  refine WCall.of_fn (rest_idle h hk hm hn hj hr fun σ1 h1 k1 => ?_)
  clear hH hd
  have hH := h1.hou
  have hd := h1.dws
  have hmt := List.mem_of_getElem? hk
  have hgt := getK_team h1 hmt
  have hwt := h1.whl t hmt
  have hW : σ1 t.W = some (t.g, .inst a_Wheel [("past", .int t.past), ("sharers", .ref t.d)]) := hwt.whl
  with_reducible refine WSs.nil ?_
  with_reducible refine WSs.cons ?_
  with_reducible refine WS.expr (by with_unfolding_all (first | exact fun _ _ => rfl | exact fun _ _ _ => rfl)) ?_
  with_reducible refine WE.method (by with_unfolding_all (first | exact fun _ _ => rfl | exact fun _ _ _ => rfl)) rfl rfl rfl ?_
  with_reducible refine WE.sub ?_
  with_reducible refine WE.attr (by with_unfolding_all (first | exact fun _ _ => rfl | exact fun _ _ _ => rfl)) ?_
  with_reducible refine WE.localA (by kernel_rfl) (by kernel_rfl) (by walk_at "lk") ?_
  with_reducible refine WGet.inst (by walk_at "hp") (by kernel_rfl) (by repeat (first | (with_reducible exact lk_head) | (with_reducible refine lk_tail (by kernel_rfl) ?_))) (by with_unfolding_all rfl) ?_
  with_reducible refine WE.localA (by kernel_rfl) (by kernel_rfl) (by walk_at "lk") ?_
  with_reducible refine WSub.sdict (by with_unfolding_all (first | exact fun _ _ => rfl | exact fun _ _ _ => rfl)) (by walk_at "hp") (by with_reducible assumption) ?_
  with_reducible refine WM.inst (by walk_at "hp") ms_Wheel_leave (by kernel_rfl) ?_
  with_reducible refine And.intro (Callee.meth ms_Wheel_leave) ?_
  with_reducible refine WEs.cons rfl ?_
  with_reducible refine WE.localA (by kernel_rfl) (by kernel_rfl) (by walk_at "lk") ?_
  with_reducible refine WEs.nil ?_
  refine WCall.of_fn (leave_c hwt hl hj fun σ2 h2 o2 => ?_)
  have hh := h1.one (t' := { t with l := t.l.eraseIdx j }) hk rfl rfl rfl h2 o2
  have k2 : KpH σ σ2 := fun b t' o q m1 m100 => o2.at (k1 b t' o q m1 m100) (by have := h.gg t hmt; omega)
  clear hH hd
  have hH := hh.hou
  have hda := hh.das
  with_reducible refine WSs.cons ?_
  with_reducible refine WS.expr (by with_unfolding_all (first | exact fun _ _ => rfl | exact fun _ _ _ => rfl)) ?_
  with_reducible refine WE.method (by with_unfolding_all (first | exact fun _ _ => rfl | exact fun _ _ _ => rfl)) rfl rfl rfl ?_
  with_reducible refine WE.attr (by with_unfolding_all (first | exact fun _ _ => rfl | exact fun _ _ _ => rfl)) ?_
  with_reducible refine WE.localA (by kernel_rfl) (by kernel_rfl) (by walk_at "lk") ?_
  with_reducible refine WGet.inst (by walk_at "hp") (by kernel_rfl) (by repeat (first | (with_reducible exact lk_head) | (with_reducible refine lk_tail (by kernel_rfl) ?_))) (by with_unfolding_all rfl) ?_
  refine WM.dictPop hda ?_
  with_reducible refine And.intro (Callee.con rfl) ?_
  with_reducible refine WEs.cons rfl ?_
  with_reducible refine WE.localA (by kernel_rfl) (by kernel_rfl) (by walk_at "lk") ?_
  with_reducible refine WEs.nil ?_
  refine WCall.dictPop hda (by simpa [aents] using hal) (getK_above hh hm) ?_
  rw [delK_aents]
  with_reducible refine WSs.nil ?_
  exact hq _ (hh.popA x.name) fun b t' o q m1 m100 => Hp.tag hda m1 (k2 b t' o q m1 m100)
theorem leave_team {H dw da k j : Nat} {tm : List Team} {ab : List (Str × Str)} {t u : Team} {x : Shr} (h : HouseD σ H dw da tm ab) (hu : u ∈ tm) (hun : u.name = x.name) (hul : u.l = []) (hk : (tm.filter fun u => decide (u.name ≠ x.name))[k]? = some t) (hm : (x.name, t.name) ∈ ab) (hj : t.l[j]? = some x) (hl : t.l.length ≤ 1000000) (hal : ab.length ≤ 1000000) (htl : tm.length ≤ 1000000)
    (hq : ∀ σ', HouseD σ' H dw da ((tm.filter fun u => decide (u.name ≠ x.name)).set k { t with l := t.l.eraseIdx j }) (ab.filter fun p => decide (p.1 ≠ x.name)) → KpH σ σ' → Q .none σ') : WFn (cx w mean mg mb) ⟨n + 4, true, sc⟩ m_House_leave [.ref H, .str x.name] ρ Q X σ := by
  have hH := h.hou
  have hd := h.dws
  have hgu := getK_team h hu
  rw [hun] at hgu
  have hwu := h.whl u hu
  have hWu : σ u.W = some (u.g, .inst a_Wheel [("past", .int u.past), ("sharers", .ref u.d)]) := hwu.whl
  refine WFn.fn2 (p1 := "self") (p2 := "name") ⟨⟨_, _, _, _, _, _, _, _, _, _, _, _, _, (rfl : (Mine.hd.heap_39 w.params).lookup m_House_leave = _), by kernel_rfl, us2 fun _ _ => rfl⟩, by kernel_rfl⟩ ?_
  with_reducible refine WSs.cons ?_
  with_reducible refine WS.assign (by with_unfolding_all (first | exact fun _ _ => rfl | exact fun _ _ _ => rfl)) ?_
  with_reducible refine WE.method (by with_unfolding_all (first | exact fun _ _ => rfl | exact fun _ _ _ => rfl)) rfl rfl rfl ?_
  with_reducible refine WE.localA (by kernel_rfl) (by kernel_rfl) (by walk_at "lk") ?_
  with_reducible refine WM.inst (by walk_at "hp") ms_House_need (by kernel_rfl) ?_
  with_reducible refine And.intro (Callee.meth ms_House_need) ?_
  with_reducible refine WEs.cons rfl ?_
  with_reducible refine WE.localA (by kernel_rfl) (by kernel_rfl) (by walk_at "lk") ?_
  with_reducible refine WEs.nil ?_
  refine WCall.of_fn (hneed_c h hm ?_)
  with_reducible refine WSt.localA (by kernel_rfl) ?_
  with_reducible refine WSs.cons ?_
  with_reducible refine WS.ite ?_
  with_reducible refine WT.cmp1 rfl ?_
  with_reducible refine WE.localA (by kernel_rfl) (by kernel_rfl) (by walk_at "lk") ?_
  with_reducible refine WE.attr (by with_unfolding_all (first | exact fun _ _ => rfl | exact fun _ _ _ => rfl)) ?_
  with_reducible refine WE.localA (by kernel_rfl) (by kernel_rfl) (by walk_at "lk") ?_
  with_reducible refine WGet.inst (by walk_at "hp") (by kernel_rfl) (by repeat (first | (with_reducible exact lk_head) | (with_reducible refine lk_tail (by kernel_rfl) ?_))) (by with_unfolding_all rfl) ?_
  with_reducible refine WC.inS_t (by walk_at "hp") (by with_reducible assumption) ?_
  with_reducible refine WTr.bool ?_
  with_reducible refine if_tt ?_
  with_reducible refine WSs.cons ?_
  with_reducible refine WS.ite ?_
  with_reducible refine WT.cmp1 rfl ?_
  with_reducible refine WE.method (by with_unfolding_all (first | exact fun _ _ => rfl | exact fun _ _ _ => rfl)) rfl rfl rfl ?_
  with_reducible refine WE.sub ?_
  with_reducible refine WE.attr (by with_unfolding_all (first | exact fun _ _ => rfl | exact fun _ _ _ => rfl)) ?_
  with_reducible refine WE.localA (by kernel_rfl) (by kernel_rfl) (by walk_at "lk") ?_
  with_reducible refine WGet.inst (by walk_at "hp") (by kernel_rfl) (by repeat (first | (with_reducible exact lk_head) | (with_reducible refine lk_tail (by kernel_rfl) ?_))) (by with_unfolding_all rfl) ?_
  with_reducible refine WE.localA (by kernel_rfl) (by kernel_rfl) (by walk_at "lk") ?_
  with_reducible refine WSub.sdict (by with_unfolding_all (first | exact fun _ _ => rfl | exact fun _ _ _ => rfl)) (by walk_at "hp") (by with_reducible assumption) ?_
  with_reducible refine WM.inst (by walk_at "hp") ms_Wheel_names (by kernel_rfl) ?_
  with_reducible refine And.intro (Callee.meth ms_Wheel_names) ?_
  with_reducible refine WEs.nil ?_
  refine WCall.of_fn (names_c 9 hwu (by rw [hul]; exact Nat.zero_le _) fun b hb => ?_)
  rw [hul]
  have h1 := h.ext (σ' := σ.put b 9 (.list (([] : List Shr).map (·.name) |>.map .str))) fun a p q => Hp.new hb.none q
  have k1 : KpH σ (σ.put b 9 (.list (([] : List Shr).map (·.name) |>.map .str))) := fun a t' o q _ _ => Hp.new hb.none q
  have hb1 : (σ.put b 9 (.list (([] : List Shr).map (·.name) |>.map .str))) b = some (9, .list []) := Hp.self
  generalize σ.put b 9 (.list (([] : List Shr).map (·.name) |>.map .str)) = σ1 at h1 k1 hb1 ⊢
  clear hH hd hWu hwu hb
  skip
  refine WE.list 9 ?_
  with_reducible refine WEs.nil ?_
  refine ⟨by simp, fun b2 hb2 => ?_⟩
  refine WC.ne (Nat.succ_le_succ (Nat.zero_le _)) (by decide) (RnV.listT (k := 1) (ListAt.own (Hp.new hb2.none hb1)) (ListAt.own Hp.self) .nil) ?_
  have h2 := h1.ext (σ' := σ1.put b2 9 (.list [])) fun a p q => Hp.new hb2.none q
  have k2 : KpH σ (σ1.put b2 9 (.list [])) := fun a t' o q m1 m100 => Hp.new hb2.none (k1 a t' o q m1 m100)
  generalize σ1.put b2 9 (.list []) = σ2 at h2 k2 ⊢
  clear h1 k1 hb1 hb2
  have hH := h2.hou
  have hd := h2.dws
  with_reducible refine WTr.bool ?_
  with_reducible refine if_ff ?_
  with_reducible refine WSs.nil ?_
  with_reducible refine WSs.cons ?_
  with_reducible refine WS.expr (by with_unfolding_all (first | exact fun _ _ => rfl | exact fun _ _ _ => rfl)) ?_
  with_reducible refine WE.method (by with_unfolding_all (first | exact fun _ _ => rfl | exact fun _ _ _ => rfl)) rfl rfl rfl ?_
  with_reducible refine WE.attr (by with_unfolding_all (first | exact fun _ _ => rfl | exact fun _ _ _ => rfl)) ?_
  with_reducible refine WE.localA (by kernel_rfl) (by kernel_rfl) (by walk_at "lk") ?_
  with_reducible refine WGet.inst (by walk_at "hp") (by kernel_rfl) (by repeat (first | (with_reducible exact lk_head) | (with_reducible refine lk_tail (by kernel_rfl) ?_))) (by with_unfolding_all rfl) ?_
  refine WM.dictPop hd ?_
  with_reducible refine And.intro (Callee.con rfl) ?_
  with_reducible refine WEs.cons rfl ?_
  with_reducible refine WE.localA (by kernel_rfl) (by kernel_rfl) (by walk_at "lk") ?_
  with_reducible refine WEs.nil ?_
  refine WCall.dictPop hd (by simpa [tents] using htl) hgu ?_
  rw [delK_tents]
  have h3 := h2.popT x.name
  have k3 : KpH σ (σ2.put dw 1 (.sdict (tents (tm.filter fun u => decide (u.name ≠ x.name))))) := fun a t' o q m1 m100 => Hp.tag hd m1 (k2 a t' o q m1 m100)
  generalize σ2.put dw 1 (.sdict (tents (tm.filter fun u => decide (u.name ≠ x.name)))) = σ3 at h3 k3 ⊢
  clear h2 k2 hH hd hgu
  generalize (tm.filter fun u => decide (u.name ≠ x.name)) = tm3 at h3 hk hq
  have hH := h3.hou
  have hd := h3.dws
  have hmt := List.mem_of_getElem? hk
  have hgt := getK_team h3 hmt
  have hwt := h3.whl t hmt
  have hW : σ3 t.W = some (t.g, .inst a_Wheel [("past", .int t.past), ("sharers", .ref t.d)]) := hwt.whl
  with_reducible refine WSs.nil ?_
  with_reducible refine WSs.cons ?_
  with_reducible refine WS.expr (by with_unfolding_all (first | exact fun _ _ => rfl | exact fun _ _ _ => rfl)) ?_
  with_reducible refine WE.method (by with_unfolding_all (first | exact fun _ _ => rfl | exact fun _ _ _ => rfl)) rfl rfl rfl ?_
  with_reducible refine WE.sub ?_
  with_reducible refine WE.attr (by with_unfolding_all (first | exact fun _ _ => rfl | exact fun _ _ _ => rfl)) ?_
  with_reducible refine WE.localA (by kernel_rfl) (by kernel_rfl) (by walk_at "lk") ?_
  with_reducible refine WGet.inst (by walk_at "hp") (by kernel_rfl) (by repeat (first | (with_reducible exact lk_head) | (with_reducible refine lk_tail (by kernel_rfl) ?_))) (by with_unfolding_all rfl) ?_
  with_reducible refine WE.localA (by kernel_rfl) (by kernel_rfl) (by walk_at "lk") ?_
  with_reducible refine WSub.sdict (by with_unfolding_all (first | exact fun _ _ => rfl | exact fun _ _ _ => rfl)) (by walk_at "hp") (by with_reducible assumption) ?_
  with_reducible refine WM.inst (by walk_at "hp") ms_Wheel_leave (by kernel_rfl) ?_
  with_reducible refine And.intro (Callee.meth ms_Wheel_leave) ?_
  with_reducible refine WEs.cons rfl ?_
  with_reducible refine WE.localA (by kernel_rfl) (by kernel_rfl) (by walk_at "lk") ?_
  with_reducible refine WEs.nil ?_
  refine WCall.of_fn (leave_c hwt hl hj fun σ4 h4 o4 => ?_)
  have hh := h3.one (t' := { t with l := t.l.eraseIdx j }) hk rfl rfl rfl h4 o4
  have k4 : KpH σ σ4 := fun b t' o q m1 m100 => o4.at (k3 b t' o q m1 m100) (by have := h3.gg t hmt; omega)
  clear hH hd
  have hH := hh.hou
  have hda := hh.das
  with_reducible refine WSs.cons ?_
  with_reducible refine WS.expr (by with_unfolding_all (first | exact fun _ _ => rfl | exact fun _ _ _ => rfl)) ?_
  with_reducible refine WE.method (by with_unfolding_all (first | exact fun _ _ => rfl | exact fun _ _ _ => rfl)) rfl rfl rfl ?_
  with_reducible refine WE.attr (by with_unfolding_all (first | exact fun _ _ => rfl | exact fun _ _ _ => rfl)) ?_
  with_reducible refine WE.localA (by kernel_rfl) (by kernel_rfl) (by walk_at "lk") ?_
  with_reducible refine WGet.inst (by walk_at "hp") (by kernel_rfl) (by repeat (first | (with_reducible exact lk_head) | (with_reducible refine lk_tail (by kernel_rfl) ?_))) (by with_unfolding_all rfl) ?_
  refine WM.dictPop hda ?_
  with_reducible refine And.intro (Callee.con rfl) ?_
  with_reducible refine WEs.cons rfl ?_
  with_reducible refine WE.localA (by kernel_rfl) (by kernel_rfl) (by walk_at "lk") ?_
  with_reducible refine WEs.nil ?_
  refine WCall.dictPop hda (by simpa [aents] using hal) (getK_above hh hm) ?_
  rw [delK_aents]
  with_reducible refine WSs.nil ?_
  exact hq _ (hh.popA x.name) fun b t' o q m1 m100 => Hp.tag hda m1 (k4 b t' o q m1 m100)
theorem leave_hno {H dw da : Nat} {tm : List Team} {ab : List (Str × Str)} {u : MV} (h : HouseD σ H dw da tm ab) (hs : ∀ {Q' : MV → Hp → Prop} {ρ' : Lo} {sc' : Scope}, WFn (cx w mean mg mb) ⟨n + 3, true, sc'⟩ m_House_need [.ref H, u] ρ' Q' (fun _ C e σ' => X false C e σ') σ) : WFn (cx w mean mg mb) ⟨n + 4, true, sc⟩ m_House_leave [.ref H, u] ρ Q X σ := by
  have hH := h.hou
  refine WFn.fn2X (p1 := "self") (p2 := "name") ⟨⟨_, _, _, _, _, _, _, _, _, _, _, _, _, (rfl : (Mine.hd.heap_39 w.params).lookup m_House_leave = _), by kernel_rfl, us2 fun _ _ => rfl⟩, by kernel_rfl⟩ ?_
  with_reducible refine WSs.cons ?_
  with_reducible refine WS.assign (by with_unfolding_all (first | exact fun _ _ => rfl | exact fun _ _ _ => rfl)) ?_
  with_reducible refine WE.method (by with_unfolding_all (first | exact fun _ _ => rfl | exact fun _ _ _ => rfl)) rfl rfl rfl ?_
  with_reducible refine WE.localA (by kernel_rfl) (by kernel_rfl) (by walk_at "lk") ?_
  with_reducible refine WM.inst (by walk_at "hp") ms_House_need (by kernel_rfl) ?_
  with_reducible refine And.intro (Callee.meth ms_House_need) ?_
  with_reducible refine WEs.cons rfl ?_
  with_reducible refine WE.localA (by kernel_rfl) (by kernel_rfl) (by walk_at "lk") ?_
  with_reducible refine WEs.nil ?_
  exact WCall.of_fn hs
theorem leave_full {H dw da : Nat} {tm : List Team} {ab : List (Str × Str)} {u : Team} {up : Str} (h : HouseD σ H dw da tm ab) (hu : u ∈ tm) (hul : 1 ≤ u.l.length) (hz : u.l.length ≤ 1000000) (hm : (u.name, up) ∈ ab) (hx : ∀ e σ', Extd σ σ' → X false a_NotEmpty e σ') : WFn (cx w mean mg mb) ⟨n + 4, true, sc⟩ m_House_leave [.ref H, .str u.name] ρ Q X σ := by
  have hH := h.hou
  have hd := h.dws
  have hgu := getK_team h hu
  have hwu := h.whl u hu
  have hWu : σ u.W = some (u.g, .inst a_Wheel [("past", .int u.past), ("sharers", .ref u.d)]) := hwu.whl
  refine WFn.fn2X (p1 := "self") (p2 := "name") ⟨⟨_, _, _, _, _, _, _, _, _, _, _, _, _, (rfl : (Mine.hd.heap_39 w.params).lookup m_House_leave = _), by kernel_rfl, us2 fun _ _ => rfl⟩, by kernel_rfl⟩ ?_
  with_reducible refine WSs.cons ?_
  with_reducible refine WS.assign (by with_unfolding_all (first | exact fun _ _ => rfl | exact fun _ _ _ => rfl)) ?_
  with_reducible refine WE.method (by with_unfolding_all (first | exact fun _ _ => rfl | exact fun _ _ _ => rfl)) rfl rfl rfl ?_
  with_reducible refine WE.localA (by kernel_rfl) (by kernel_rfl) (by walk_at "lk") ?_
  with_reducible refine WM.inst (by walk_at "hp") ms_House_need (by kernel_rfl) ?_
  with_reducible refine And.intro (Callee.meth ms_House_need) ?_
  with_reducible refine WEs.cons rfl ?_
  with_reducible refine WE.localA (by kernel_rfl) (by kernel_rfl) (by walk_at "lk") ?_
  with_reducible refine WEs.nil ?_
  refine WCall.of_fn (hneed_c h hm ?_)
  with_reducible refine WSt.localA (by kernel_rfl) ?_
  with_reducible refine WSs.cons ?_
  with_reducible refine WS.ite ?_
  with_reducible refine WT.cmp1 rfl ?_
  with_reducible refine WE.localA (by kernel_rfl) (by kernel_rfl) (by walk_at "lk") ?_
  with_reducible refine WE.attr (by with_unfolding_all (first | exact fun _ _ => rfl | exact fun _ _ _ => rfl)) ?_
  with_reducible refine WE.localA (by kernel_rfl) (by kernel_rfl) (by walk_at "lk") ?_
  with_reducible refine WGet.inst (by walk_at "hp") (by kernel_rfl) (by repeat (first | (with_reducible exact lk_head) | (with_reducible refine lk_tail (by kernel_rfl) ?_))) (by with_unfolding_all rfl) ?_
  with_reducible refine WC.inS_t (by walk_at "hp") (by with_reducible assumption) ?_
  with_reducible refine WTr.bool ?_
  with_reducible refine if_tt ?_
  with_reducible refine WSs.cons ?_
  with_reducible refine WS.ite ?_
  with_reducible refine WT.cmp1 rfl ?_
  with_reducible refine WE.method (by with_unfolding_all (first | exact fun _ _ => rfl | exact fun _ _ _ => rfl)) rfl rfl rfl ?_
  with_reducible refine WE.sub ?_
  with_reducible refine WE.attr (by with_unfolding_all (first | exact fun _ _ => rfl | exact fun _ _ _ => rfl)) ?_
  with_reducible refine WE.localA (by kernel_rfl) (by kernel_rfl) (by walk_at "lk") ?_
  with_reducible refine WGet.inst (by walk_at "hp") (by kernel_rfl) (by repeat (first | (with_reducible exact lk_head) | (with_reducible refine lk_tail (by kernel_rfl) ?_))) (by with_unfolding_all rfl) ?_
  with_reducible refine WE.localA (by kernel_rfl) (by kernel_rfl) (by walk_at "lk") ?_
  with_reducible refine WSub.sdict (by with_unfolding_all (first | exact fun _ _ => rfl | exact fun _ _ _ => rfl)) (by walk_at "hp") (by with_reducible assumption) ?_
  with_reducible refine WM.inst (by walk_at "hp") ms_Wheel_names (by kernel_rfl) ?_
  with_reducible refine And.intro (Callee.meth ms_Wheel_names) ?_
  with_reducible refine WEs.nil ?_
  refine WCall.of_fn (names_c 9 hwu hz fun b hb => ?_)
  skip
  refine WE.list 9 ?_
  with_reducible refine WEs.nil ?_
  refine ⟨by simp, fun b2 hb2 => ?_⟩
  refine WC.ne (Nat.succ_le_succ (Nat.zero_le _)) (by decide) (RnV.listF (ListAt.own (Hp.new hb2.none Hp.self)) (ListAt.own Hp.self) (by rw [List.length_map, List.length_map]; exact Nat.ne_of_gt hul)) ?_
  with_reducible refine WTr.bool ?_
  with_reducible refine if_tt ?_
  with_reducible refine WSs.cons ?_
  refine WS.raise rfl (by kernel_rfl) g_NotEmpty (by kernel_rfl) PySem.F.excBase_ValueError PySem.F.excBase_ValueError (by kernel_rfl) rfl ?_
  with_reducible refine WE.str ?_
  exact fun e => hx e _ fun a p q => Hp.new hb2.none (Hp.new hb.none q)
def Let (x : Str) : Prop := ∀ c ∈ x.cps.toList, 97 ≤ c ∧ c ≤ 122
theorem app_list (a b : Str) : (a ++ b).cps.toList = a.cps.toList ++ b.cps.toList := Array.toList_append
theorem app_len (a b : Str) : (a ++ b).length = a.length + b.length := Array.size_append
theorem Let.app {a b : Str} (h : Let a) (k : Let b) : Let (a ++ b) := fun c hc => by
  rw [app_list] at hc
  rcases List.mem_append.mp hc with q | q
  · exact h c q
  · exact k c q
theorem repS_list (a n : Nat) : (repS ⟨#[a]⟩ n).cps.toList = List.replicate n a := by
  show ((List.replicate n #[a]).foldl (· ++ ·) #[]).toList = _
  induction n with
  | zero => rfl
  | succ n ih => rw [List.replicate_succ, List.foldl_cons, foldl_app, Array.toList_append, ih, List.replicate_succ]; rfl
theorem Let.rep {a n : Nat} (h : 97 ≤ a ∧ a ≤ 122) : Let (repS ⟨#[a]⟩ n) := fun c hc => by
  rw [repS_list] at hc
  rw [List.eq_of_mem_replicate hc]; exact h
theorem Let.one {a : Nat} (h : 97 ≤ a ∧ a ≤ 122) : Let ⟨#[a]⟩ := fun c hc => by
  have : c = a := by simpa using hc
  rw [this]; exact h
theorem inL_ok : ((List.range 128).all fun n => inL n == (decide (97 ≤ n) && decide (n ≤ 122))) = true := by kernel_rfl
theorem inL_at {c : Nat} (h : 97 ≤ c ∧ c ≤ 122) : inL c = true := by
  have := eq_of_beq (List.all_eq_true.mp inL_ok c (List.mem_range.mpr (by omega)))
  rw [this, decide_eq_true h.1, decide_eq_true h.2]; rfl
theorem Let.good {x : Str} (h : Let x) (h1 : 1 ≤ x.length) (h8 : x.length ≤ 8) : goodN x = true := by
  unfold goodN
  rw [decide_eq_true (by omega), decide_eq_true (by omega), Bool.true_and, Bool.true_and, List.all_eq_true]
  intro b hb
  obtain ⟨c, hc, rfl⟩ := List.mem_map.mp hb
  exact inL_at (h c hc)
theorem ascii_of {x : Str} (h : ∀ c ∈ x.cps.toList, c < 128) : x.cps.all (· < 128) = true := by
  rw [← Array.all_toList, List.all_eq_true]
  exact fun c hc => decide_eq_true (h c hc)
theorem Let.ascii {x : Str} (h : Let x) : x.cps.all (· < 128) = true := ascii_of fun c hc => by have := h c hc; omega
/-- a name of the law's -/
structure okN (x : Str) : Prop where
  le : Let x
  l1 : 1 ≤ x.length
  l8 : x.length ≤ 8
  ot : x ≠ "other"
structure badN (x : Str) : Prop where
  bad : goodN x = false
  len : x.length ≤ 100
  asc : x.cps.all (· < 128) = true
theorem okN.good {x : Str} (h : okN x) : goodN x = true := h.le.good h.l1 h.l8
theorem okN.ne_bad {x y : Str} (h : okN x) (k : badN y) : x ≠ y := fun q => by have := h.good; rw [q, k.bad] at this; exact nomatch this
theorem badN.empty : badN "" := ⟨by kernel_rfl, by decide, by kernel_rfl⟩
theorem okN.long {x : Str} (h : okN x) : badN (x ++ "abcdefgh") := by
  have e : (x ++ "abcdefgh").length = x.length + 8 := app_len ..
  have hl := h.l1
  have h8 := h.l8
  refine ⟨?_, by omega, ?_⟩
  · unfold goodN
    rw [decide_eq_false (p := ((x ++ "abcdefgh").length : Int) ≤ 8) (by omega), Bool.and_false, Bool.false_and]
  · refine (h.le.app (b := "abcdefgh") fun c hc => ?_).ascii
    have : (("abcdefgh" : Str).cps.toList.all fun c => decide (97 ≤ c) && decide (c ≤ 122)) = true := by kernel_rfl
    have := List.all_eq_true.mp this c hc
    rw [Bool.and_eq_true] at this
    exact ⟨of_decide_eq_true this.1, of_decide_eq_true this.2⟩
theorem slice_mem {x : Str} {l u : Option Int} {c : Nat} (h : c ∈ (Txt.slice x l u).cps.toList) : c ∈ x.cps.toList := by
  unfold Txt.slice at h
  split at h
  · exact h
  · rw [List.toList_toArray] at h
    obtain ⟨k, _, hk⟩ := List.mem_filterMap.mp h
    have : x.cps.toList[k]? = some c := by simpa using hk
    exact List.mem_of_getElem? this
theorem okN.capital {x : Str} (h : okN x) : badN ("A" ++ Txt.slice x Option.none (some 3)) := by
  have e : ("A" ++ Txt.slice x Option.none (some 3) : Str).length = 1 + (Txt.slice x Option.none (some 3)).length := app_len ..
  have hs := Txt.slice_le x Option.none (some 3)
  have h8 := h.l8
  have el : ("A" ++ Txt.slice x Option.none (some 3) : Str).cps.toList = 65 :: (Txt.slice x Option.none (some 3)).cps.toList := app_list ..
  refine ⟨?_, by omega, ascii_of fun c hc => ?_⟩
  · unfold goodN
    rw [el, List.map_cons, List.all_cons]
    have : inL 65 = false := by kernel_rfl
    rw [this]
    simp
  · rw [el] at hc
    rcases List.mem_cons.mp hc with q | q
    · rw [q]; decide
    · have := h.le c (slice_mem q); omega
theorem shapeA : ((List.range 5).all fun a => (List.range 26).all fun i => (List.range 4).all fun b => decide (repS "o" a ++ ⟨#[97 + i]⟩ ++ repS "o" b ≠ ("other" : Str))) = true := by kernel_rfl
theorem shapeB : ((List.range 26).all fun i => (List.range 26).all fun c => (List.range 7).all fun m => decide ((⟨#[97 + i]⟩ : Str) ++ repS ⟨#[97 + c]⟩ m ≠ ("other" : Str))) = true := by kernel_rfl
theorem okA {a b i : Int} (a0 : 0 ≤ a) (a1 : a < 5) (b0 : 0 ≤ b) (b1 : b < 4) (i0 : 0 ≤ i) (i1 : i < 26) : okN (repS "o" a.toNat ++ ⟨#[97 + i.toNat]⟩ ++ repS "o" b.toNat) := by
  have lo : ∀ n, (repS ("o" : Str) n).length = n := fun n => by rw [repS_length]; exact Nat.mul_one n
  have e : (repS "o" a.toNat ++ ⟨#[97 + i.toNat]⟩ ++ repS "o" b.toNat : Str).length = a.toNat + 1 + b.toNat := by rw [app_len, app_len, lo, lo]; rfl
  refine ⟨((Let.rep (a := 111) (by decide)).app (Let.one (by omega))).app (Let.rep (a := 111) (by decide)), by omega, by omega, ?_⟩
  have := List.all_eq_true.mp (List.all_eq_true.mp (List.all_eq_true.mp shapeA a.toNat (List.mem_range.mpr (by omega))) i.toNat (List.mem_range.mpr (by omega))) b.toNat (List.mem_range.mpr (by omega))
  exact of_decide_eq_true this
theorem okB {i c m : Int} (i0 : 0 ≤ i) (i1 : i < 26) (c0 : 0 ≤ c) (c1 : c < 26) (m0 : 0 ≤ m) (m1 : m < 7) : okN ((⟨#[97 + i.toNat]⟩ : Str) ++ repS ⟨#[97 + c.toNat]⟩ m.toNat) := by
  have lo : (repS (⟨#[97 + c.toNat]⟩ : Str) m.toNat).length = m.toNat := by rw [repS_length]; exact Nat.mul_one _
  have e : ((⟨#[97 + i.toNat]⟩ : Str) ++ repS ⟨#[97 + c.toNat]⟩ m.toNat : Str).length = 1 + m.toNat := by rw [app_len, lo]; rfl
  refine ⟨(Let.one (by omega)).app (Let.rep (by omega)), by omega, by omega, ?_⟩
  have := List.all_eq_true.mp (List.all_eq_true.mp (List.all_eq_true.mp shapeB i.toNat (List.mem_range.mpr (by omega))) c.toNat (List.mem_range.mpr (by omega))) m.toNat (List.mem_range.mpr (by omega))
  exact of_decide_eq_true this
def ws9 : List Str := ["deal", "wake", "rest", "leave", "share", "team", "hand", "nobody", "yes", "no", "done", "twice"]
theorem ws9_ok : (ws9.all fun x => (x.cps.toList.all fun c => decide (97 ≤ c) && decide (c ≤ 122)) && decide (1 ≤ x.length) && decide (x.length ≤ 8) && decide (x ≠ "other")) = true := by kernel_rfl
theorem okW {x : Str} (h : x ∈ ws9) : okN x := by
  have := List.all_eq_true.mp ws9_ok x h
  simp only [Bool.and_eq_true, decide_eq_true_eq, List.all_eq_true] at this
  exact ⟨fun c hc => this.1.1.1 c hc, this.1.1.2, this.1.2, this.2⟩
theorem let_at : ((List.range 26).all fun i => decide (LETTERS.cps[i]? = some (97 + i))) = true := by kernel_rfl
theorem letter {i : Int} (i0 : 0 ≤ i) (i1 : i < 26) : LETTERS.cps[i.toNat]? = some (97 + i.toNat) := of_decide_eq_true (List.all_eq_true.mp let_at i.toNat (List.mem_range.mpr (by omega)))
/-- the names that the law has made -/
structure Names9 (σ : Hp) (N : Nat) (gs : List Str) (b1 b2 : Str) (o : MV) : Prop where
  lst : σ N = some (2, .list (gs.map .str ++ [.str "", .str b1, .str b2, o]))
  len : gs.length = 5
  ok : ∀ x ∈ gs, okN x
  bad1 : badN b1
  bad2 : badN b2
  odd : Odd σ o
  o3 : ∀ a, o = .ref a → ∃ xs, σ a = some (3, .list xs)
theorem four_at {a b c d : MV} {k : Int} (h0 : 0 ≤ k) (h1 : k < 4) : ∃ v, [a, b, c, d][k.toNat]? = some v ∧ (v = a ∨ v = b ∨ v = c ∨ v = d) := by
  have : k = 0 ∨ k = 1 ∨ k = 2 ∨ k = 3 := by omega
  rcases this with rfl | rfl | rfl | rfl
  · exact ⟨a, rfl, .inl rfl⟩
  · exact ⟨b, rfl, .inr (.inl rfl)⟩
  · exact ⟨c, rfl, .inr (.inr (.inl rfl))⟩
  · exact ⟨d, rfl, .inr (.inr (.inr rfl))⟩
theorem names_by_c {cell : Int} (hq : ∀ N gs b1 b2 o σ', Names9 σ' N gs b1 b2 o → Extd σ σ' → Q (.ref N) σ') : WFn (cx w mean mg mb) ⟨n + 1, true, sc⟩ a_law_names_by [.int cell] ρ Q X σ := by
  refine WFn.fn1 (p1 := "_law_cell") ⟨⟨_, _, _, _, _, _, _, _, _, _, _, _, _, (rfl : (Mine.hd.heap_39 w.params).lookup a_law_names_by = _), by kernel_rfl, us1 fun _ => rfl⟩, by kernel_rfl⟩ ?_
  with_reducible refine WSs.cons ?_
  with_reducible refine WS.assign (by with_unfolding_all (first | exact fun _ _ => rfl | exact fun _ _ _ => rfl)) ?_
  with_reducible refine WE.str ?_
  with_reducible refine WSt.localA (by kernel_rfl) ?_
  with_reducible refine WSs.cons ?_
  with_reducible refine WS.assign (by with_unfolding_all (first | exact fun _ _ => rfl | exact fun _ _ _ => rfl)) ?_
  refine WE.list 9 ?_
  with_reducible refine WEs.cons rfl ?_
  with_reducible refine WE.str ?_
  with_reducible refine WEs.cons rfl ?_
  with_reducible refine WE.str ?_
  with_reducible refine WEs.cons rfl ?_
  with_reducible refine WE.str ?_
  with_reducible refine WEs.cons rfl ?_
  with_reducible refine WE.str ?_
  with_reducible refine WEs.cons rfl ?_
  with_reducible refine WE.str ?_
  with_reducible refine WEs.cons rfl ?_
  with_reducible refine WE.str ?_
  with_reducible refine WEs.cons rfl ?_
  with_reducible refine WE.str ?_
  with_reducible refine WEs.cons rfl ?_
  with_reducible refine WE.str ?_
  with_reducible refine WEs.cons rfl ?_
  with_reducible refine WE.str ?_
  with_reducible refine WEs.cons rfl ?_
  with_reducible refine WE.str ?_
  with_reducible refine WEs.cons rfl ?_
  with_reducible refine WE.str ?_
  with_reducible refine WEs.cons rfl ?_
  with_reducible refine WE.str ?_
  with_reducible refine WEs.nil ?_
  refine ⟨by simp, fun Wd hWd => ?_⟩
  with_reducible refine WSt.localA (by kernel_rfl) ?_
  with_reducible refine WSs.cons ?_
  with_reducible refine WS.assign (by with_unfolding_all (first | exact fun _ _ => rfl | exact fun _ _ _ => rfl)) ?_
  refine WE.list 2 ?_
  with_reducible refine WEs.nil ?_
  refine ⟨by simp, fun N hN => ?_⟩
  have e1 : Extd σ ((σ.put Wd 9 (.list (ws9.map .str))).put N 2 (.list [])) := fun a p q => Hp.new hN.none (Hp.new hWd.none q)
  have hW1 : ((σ.put Wd 9 (.list (ws9.map .str))).put N 2 (.list [])) Wd = some (9, .list (ws9.map .str)) := Hp.new hN.none Hp.self
  have hN1 : ((σ.put Wd 9 (.list (ws9.map .str))).put N 2 (.list [])) N = some (2, .list []) := Hp.self
  have nN : σ N = Option.none := by
    cases e : σ N with
    | none => rfl
    | some p => have := hN.none; rw [Hp.new hWd.none e] at this; exact nomatch this
  change WSt _ _ _ _ _ _ _ ((σ.put Wd 9 (.list (ws9.map .str))).put N 2 (.list []))
  generalize (σ.put Wd 9 (.list (ws9.map .str))).put N 2 (.list []) = σ1 at e1 hW1 hN1 ⊢
  clear hWd hN
  with_reducible refine WSt.localA (by kernel_rfl) ?_
  with_reducible refine WSs.cons ?_
  with_reducible refine WS.for rfl (by with_unfolding_all (first | exact fun _ _ => rfl | exact fun _ _ _ => rfl)) ?_
  with_reducible refine WE.call rfl rfl ?_
  with_reducible refine WE.globalA (by kernel_rfl) g_range ?_
  with_reducible refine And.intro (Callee.con rfl) ?_
  with_reducible refine WEs.cons rfl ?_
  with_reducible refine WE.binop ?_
  with_reducible refine WE.int ?_
  with_reducible refine WE.call rfl rfl ?_
  with_reducible refine WE.globalA (by kernel_rfl) g_int ?_
  with_reducible refine And.intro (Callee.con rfl) ?_
  with_reducible refine WEs.cons rfl ?_
  with_reducible refine WE.cmp1 rfl ?_
  with_reducible refine WE.binop ?_
  with_reducible refine WE.binop ?_
  with_reducible refine WE.localA (by kernel_rfl) (by kernel_rfl) (by walk_at "lk") ?_
  with_reducible refine WE.int ?_
  with_reducible refine WB.div (by walk_at "ar") (by walk_at "ar") ?_
  with_reducible refine WE.int ?_
  with_reducible refine WB.mod (by walk_at "ar") ?_
  with_reducible refine WE.int ?_
  with_reducible refine WC.eqI ?_
  with_reducible refine WEs.nil ?_
  refine WCall.intB ?_
  with_reducible refine WB.mul (IntMulOk.of_left (by decide)) ?_
  with_reducible refine WEs.nil ?_
  have hb : 0 ≤ 5 * (if ((cell.fdiv 2704).fmod 4 == 1) = true then (1 : Int) else 0) ∧ 5 * (if ((cell.fdiv 2704).fmod 4 == 1) = true then (1 : Int) else 0) ≤ 5 := by split <;> decide
  generalize 5 * (if ((cell.fdiv 2704).fmod 4 == 1) = true then (1 : Int) else 0) = m at hb ⊢
  obtain ⟨m0, m5⟩ := hb
  refine WCall.range1 9 fun b hb => ?_
  refine ⟨_, _, itR Hp.self m0 (Int.le_trans m5 (by decide)), ?_⟩
  have gone : ∀ {σ2 : Hp} {xs ys : List MV}, Extd σ σ2 → σ2 N = some (2, .list xs) → Extd σ (σ2.put N 2 (.list ys)) := fun e h a p q => Hp.ne (fun e' => by rw [e', nN] at q; exact nomatch q) (e _ _ q)
  refine WFor.upTo (fun j ρ' σ' => (∃ gs : List Str, σ' N = some (2, .list (gs.map .str)) ∧ gs.length = j ∧ ∀ x ∈ gs, okN x) ∧ Extd σ σ' ∧ σ' Wd = some (9, .list (ws9.map .str)) ∧ ρ' "_law_cell" = some (.int cell) ∧ ρ' "_law_some" = some (.str "abcdefghijklmnopqrstuvwxyz") ∧ ρ' "_law_words" = some (.ref Wd) ∧ ρ' "_law_names" = some (.ref N)) ?_ ?_ ?_
  · exact ⟨⟨[], Hp.new hb.none hN1, rfl, fun x hx => nomatch hx⟩, fun a p q => Hp.new hb.none (e1 _ _ q), Hp.new hb.none hW1, by walk_at "lk", by walk_at "lk", by walk_at "lk", by walk_at "lk"⟩
  · rintro j ρ' σ' hj ⟨⟨gs, hN, gl, gk⟩, e, hW, r0, r1, r2, r3⟩
    have i0 := fmod_ge (cell + 5 * (j : Int)) (show (1 : Int) ≤ 12 by decide)
    have i1 := fmod_lt (cell + 5 * (j : Int)) (show (1 : Int) ≤ 12 by decide)
    have i2 : (cell + 5 * (j : Int)).fmod 12 < 2 ^ 63 := by omega
    have hlt : ((cell + 5 * (j : Int)).fmod 12).toNat < ws9.length := by show _ < 12; omega
    have hw0 : ws9[((cell + 5 * (j : Int)).fmod 12).toNat]? = some ws9[((cell + 5 * (j : Int)).fmod 12).toNat] := List.getElem?_eq_getElem hlt
    generalize ws9[((cell + 5 * (j : Int)).fmod 12).toNat] = x at hw0
    have hw1 : (ws9.map MV.str)[((cell + 5 * (j : Int)).fmod 12).toNat]? = some (.str x) := by rw [List.getElem?_map, hw0]; rfl
    with_reducible refine WSt.localA (by kernel_rfl) ?_
    with_reducible refine WSs.cons ?_
    with_reducible refine WS.expr (by with_unfolding_all (first | exact fun _ _ => rfl | exact fun _ _ _ => rfl)) ?_
    with_reducible refine WE.method (by with_unfolding_all (first | exact fun _ _ => rfl | exact fun _ _ _ => rfl)) rfl rfl rfl ?_
    with_reducible refine WE.localA (by kernel_rfl) (by kernel_rfl) (by walk_at "lk") ?_
    refine WM.listAppend hN ?_
    with_reducible refine And.intro (Callee.con rfl) ?_
    with_reducible refine WEs.cons rfl ?_
    with_reducible refine WE.sub ?_
    with_reducible refine WE.localA (by kernel_rfl) (by kernel_rfl) (by walk_at "lk") ?_
    with_reducible refine WE.binop ?_
    with_reducible refine WE.binop ?_
    with_reducible refine WE.localA (by kernel_rfl) (by kernel_rfl) (by walk_at "lk") ?_
    with_reducible refine WE.binop ?_
    with_reducible refine WE.int ?_
    with_reducible refine WE.localA (by kernel_rfl) (by kernel_rfl) (by walk_at "lk") ?_
    with_reducible refine WB.mul (IntMulOk.of_left (by decide)) ?_
    with_reducible refine WB.add ?_
    with_reducible refine WE.int ?_
    with_reducible refine WB.mod (by walk_at "ar") ?_
    with_reducible refine WSub.list (by with_unfolding_all (first | exact fun _ _ => rfl | exact fun _ _ _ => rfl)) (by first | with_reducible assumption | ((with_reducible apply ListAt.own); walk_at "hp") | ((with_reducible apply ListAt.k); walk_at "hp")) (by walk_at "ar") (by walk_at "ar") (by with_reducible assumption) ?_
    with_reducible refine WEs.nil ?_
    refine WCall.append hN (by simp; omega) ?_
    with_reducible refine WSs.nil ?_
    refine ⟨⟨gs ++ [x], by rw [List.map_append]; exact Hp.self, by simp [gl], fun y hy => ?_⟩, gone e hN, Hp.tag hN (by decide) hW, by walk_at "lk", by walk_at "lk", by walk_at "lk", by walk_at "lk"⟩
    rcases List.mem_append.mp hy with q | q
    · exact gk y q
    · rw [List.mem_singleton.mp q]; exact okW (List.mem_of_getElem? hw0)
  rintro ρ' σ' ⟨⟨gs, hN, gl, gk⟩, e, hW, r0, r1, r2, r3⟩
  have gl' : ((gs.map MV.str).length : Int) = m := by rw [List.length_map, gl]; omega
  with_reducible refine WSs.cons ?_
  with_reducible refine WS.for rfl (by with_unfolding_all (first | exact fun _ _ => rfl | exact fun _ _ _ => rfl)) ?_
  with_reducible refine WE.call rfl rfl ?_
  with_reducible refine WE.globalA (by kernel_rfl) g_range ?_
  with_reducible refine And.intro (Callee.con rfl) ?_
  with_reducible refine WEs.cons rfl ?_
  with_reducible refine WE.binop ?_
  with_reducible refine WE.int ?_
  with_reducible refine WE.call rfl rfl ?_
  with_reducible refine WE.globalA (by kernel_rfl) g_len ?_
  with_reducible refine And.intro (Callee.con rfl) ?_
  with_reducible refine WEs.cons rfl ?_
  with_reducible refine WE.localA (by kernel_rfl) (by kernel_rfl) (by walk_at "lk") ?_
  with_reducible refine WEs.nil ?_
  refine WCall.lenList (ListAt.own hN) (by simp; omega) ?_
  rw [gl']
  with_reducible refine WB.sub ?_
  with_reducible refine WEs.nil ?_
  refine WCall.range1 9 fun b2 hb2 => ?_
  refine ⟨_, _, itR Hp.self (by omega) (by omega), ?_⟩
  refine WFor.upTo (fun j ρ' σ' => (∃ gs : List Str, σ' N = some (2, .list (gs.map .str)) ∧ (gs.length : Int) = m + j ∧ ∀ x ∈ gs, okN x) ∧ Extd σ σ' ∧ ρ' "_law_cell" = some (.int cell) ∧ ρ' "_law_some" = some (.str "abcdefghijklmnopqrstuvwxyz") ∧ ρ' "_law_names" = some (.ref N)) ?_ ?_ ?_
  · exact ⟨⟨gs, Hp.new hb2.none hN, by omega, gk⟩, fun a p q => Hp.new hb2.none (e _ _ q), by walk_at "lk", by walk_at "lk", by walk_at "lk"⟩
  · clear hN gl gk gl' e hW r0 r1 r2 r3 hb2 hb hN1 hW1 e1
    clear gs ρ' σ'
    rintro j ρ' σ' hj ⟨⟨gs, hN, gl, gk⟩, e, r0, r1, r3⟩
    have i0 := fmod_ge (cell + 5 * (j : Int)) (show (1 : Int) ≤ 26 by decide)
    have i1 := fmod_lt (cell + 5 * (j : Int)) (show (1 : Int) ≤ 26 by decide)
    have i2 : (cell + 5 * (j : Int)).fmod 26 < 2 ^ 63 := by omega
    with_reducible refine WSt.localA (by kernel_rfl) ?_
    with_reducible refine WSs.cons ?_
    with_reducible refine WS.assign (by with_unfolding_all (first | exact fun _ _ => rfl | exact fun _ _ _ => rfl)) ?_
    with_reducible refine WE.sub ?_
    with_reducible refine WE.localA (by kernel_rfl) (by kernel_rfl) (by walk_at "lk") ?_
    with_reducible refine WE.binop ?_
    with_reducible refine WE.binop ?_
    with_reducible refine WE.localA (by kernel_rfl) (by kernel_rfl) (by walk_at "lk") ?_
    with_reducible refine WE.binop ?_
    with_reducible refine WE.int ?_
    with_reducible refine WE.localA (by kernel_rfl) (by kernel_rfl) (by walk_at "lk") ?_
    with_reducible refine WB.mul (IntMulOk.of_left (by decide)) ?_
    with_reducible refine WB.add ?_
    with_reducible refine WE.int ?_
    with_reducible refine WB.mod (by walk_at "ar") ?_
    refine WSub.str (by with_unfolding_all (first | exact fun _ _ => rfl | exact fun _ _ _ => rfl)) i0 i2 (letter i0 i1) ?_
    by_cases c1 : (cell.fdiv 26).fmod 2 = 1
    · have a0 := fmod_ge (cell.fdiv 52) (show (1 : Int) ≤ 5 by decide)
      have a1 := fmod_lt (cell.fdiv 52) (show (1 : Int) ≤ 5 by decide)
      have b0 := fmod_ge (cell.fdiv 260) (show (1 : Int) ≤ 4 by decide)
      have b1 := fmod_lt (cell.fdiv 260) (show (1 : Int) ≤ 4 by decide)
      have ok := okA a0 a1 b0 b1 i0 i1
      have l8 := ok.l8
      with_reducible refine WSt.localA (by kernel_rfl) ?_
      with_reducible refine WSs.cons ?_
      with_reducible refine WS.ite ?_
      with_reducible refine WT.cmp1 rfl ?_
      with_reducible refine WE.binop ?_
      with_reducible refine WE.binop ?_
      with_reducible refine WE.localA (by kernel_rfl) (by kernel_rfl) (by walk_at "lk") ?_
      with_reducible refine WE.int ?_
      with_reducible refine WB.div (by walk_at "ar") (by walk_at "ar") ?_
      with_reducible refine WE.int ?_
      with_reducible refine WB.mod (by walk_at "ar") ?_
      with_reducible refine WE.int ?_
      with_reducible refine WC.eqI ?_
      with_reducible refine WTr.bool ?_
      with_reducible refine if_et (by with_reducible assumption) ?_
      with_reducible refine WSs.cons ?_
      with_reducible refine WS.expr (by with_unfolding_all (first | exact fun _ _ => rfl | exact fun _ _ _ => rfl)) ?_
      with_reducible refine WE.method (by with_unfolding_all (first | exact fun _ _ => rfl | exact fun _ _ _ => rfl)) rfl rfl rfl ?_
      with_reducible refine WE.localA (by kernel_rfl) (by kernel_rfl) (by walk_at "lk") ?_
      refine WM.listAppend hN ?_
      with_reducible refine And.intro (Callee.con rfl) ?_
      with_reducible refine WEs.cons rfl ?_
      with_reducible refine WE.binop ?_
      with_reducible refine WE.binop ?_
      with_reducible refine WE.binop ?_
      with_reducible refine WE.str ?_
      with_reducible refine WE.binop ?_
      with_reducible refine WE.binop ?_
      with_reducible refine WE.localA (by kernel_rfl) (by kernel_rfl) (by walk_at "lk") ?_
      with_reducible refine WE.int ?_
      with_reducible refine WB.div (by walk_at "ar") (by walk_at "ar") ?_
      with_reducible refine WE.int ?_
      with_reducible refine WB.mod (by walk_at "ar") ?_
      refine WB.mulS a0 (by omega) (show 1 ≤ 1000 by decide) ?_
      with_reducible refine WE.localA (by kernel_rfl) (by kernel_rfl) (by walk_at "lk") ?_
      refine WB.addS (size_ok (by rw [repS_length]; show _ * 1 + 1 ≤ _; omega)) ?_
      with_reducible refine WE.binop ?_
      with_reducible refine WE.str ?_
      with_reducible refine WE.binop ?_
      with_reducible refine WE.binop ?_
      with_reducible refine WE.localA (by kernel_rfl) (by kernel_rfl) (by walk_at "lk") ?_
      with_reducible refine WE.int ?_
      with_reducible refine WB.div (by walk_at "ar") (by walk_at "ar") ?_
      with_reducible refine WE.int ?_
      with_reducible refine WB.mod (by walk_at "ar") ?_
      refine WB.mulS b0 (by omega) (show 1 ≤ 1000 by decide) ?_
      refine WB.addS (size_ok (by rw [app_len] at l8; omega)) ?_
      with_reducible refine WEs.nil ?_
      refine WCall.append hN (by simp; omega) ?_
      with_reducible refine WSs.nil ?_
      with_reducible refine WSs.nil ?_
      refine ⟨⟨gs ++ [_], by rw [List.map_append]; exact Hp.self, by rw [List.length_append]; simp; omega, fun y hy => ?_⟩, gone e hN, by walk_at "lk", by walk_at "lk", by walk_at "lk"⟩
      rcases List.mem_append.mp hy with q | q
      · exact gk y q
      · rw [List.mem_singleton.mp q]; exact ok
    · have a0 := fmod_ge (cell.fdiv 26 + (j : Int)) (show (1 : Int) ≤ 26 by decide)
      have a1 := fmod_lt (cell.fdiv 26 + (j : Int)) (show (1 : Int) ≤ 26 by decide)
      have a2 : (cell.fdiv 26 + (j : Int)).fmod 26 < 2 ^ 63 := by omega
      have hd : (j : Int).fdiv 2 = (j : Int) / 2 := Int.fdiv_eq_ediv_of_nonneg _ (by decide)
      have k0 : 0 ≤ (j : Int) + (j : Int).fdiv 2 := by omega
      have k1 : (j : Int) + (j : Int).fdiv 2 < 7 := by omega
      have ok := okB i0 i1 a0 a1 k0 k1
      have l8 := ok.l8
      with_reducible refine WSt.localA (by kernel_rfl) ?_
      with_reducible refine WSs.cons ?_
      with_reducible refine WS.ite ?_
      with_reducible refine WT.cmp1 rfl ?_
      with_reducible refine WE.binop ?_
      with_reducible refine WE.binop ?_
      with_reducible refine WE.localA (by kernel_rfl) (by kernel_rfl) (by walk_at "lk") ?_
      with_reducible refine WE.int ?_
      with_reducible refine WB.div (by walk_at "ar") (by walk_at "ar") ?_
      with_reducible refine WE.int ?_
      with_reducible refine WB.mod (by walk_at "ar") ?_
      with_reducible refine WE.int ?_
      with_reducible refine WC.eqI ?_
      with_reducible refine WTr.bool ?_
      with_reducible refine if_ef (by with_reducible assumption) ?_
      with_reducible refine WSs.cons ?_
      with_reducible refine WS.expr (by with_unfolding_all (first | exact fun _ _ => rfl | exact fun _ _ _ => rfl)) ?_
      with_reducible refine WE.method (by with_unfolding_all (first | exact fun _ _ => rfl | exact fun _ _ _ => rfl)) rfl rfl rfl ?_
      with_reducible refine WE.localA (by kernel_rfl) (by kernel_rfl) (by walk_at "lk") ?_
      refine WM.listAppend hN ?_
      with_reducible refine And.intro (Callee.con rfl) ?_
      with_reducible refine WEs.cons rfl ?_
      with_reducible refine WE.binop ?_
      with_reducible refine WE.localA (by kernel_rfl) (by kernel_rfl) (by walk_at "lk") ?_
      with_reducible refine WE.binop ?_
      with_reducible refine WE.sub ?_
      with_reducible refine WE.localA (by kernel_rfl) (by kernel_rfl) (by walk_at "lk") ?_
      with_reducible refine WE.binop ?_
      with_reducible refine WE.binop ?_
      with_reducible refine WE.binop ?_
      with_reducible refine WE.localA (by kernel_rfl) (by kernel_rfl) (by walk_at "lk") ?_
      with_reducible refine WE.int ?_
      with_reducible refine WB.div (by walk_at "ar") (by walk_at "ar") ?_
      with_reducible refine WE.localA (by kernel_rfl) (by kernel_rfl) (by walk_at "lk") ?_
      with_reducible refine WB.add ?_
      with_reducible refine WE.int ?_
      with_reducible refine WB.mod (by walk_at "ar") ?_
      refine WSub.str (by with_unfolding_all (first | exact fun _ _ => rfl | exact fun _ _ _ => rfl)) a0 a2 (letter a0 a1) ?_
      with_reducible refine WE.binop ?_
      with_reducible refine WE.localA (by kernel_rfl) (by kernel_rfl) (by walk_at "lk") ?_
      with_reducible refine WE.binop ?_
      with_reducible refine WE.localA (by kernel_rfl) (by kernel_rfl) (by walk_at "lk") ?_
      with_reducible refine WE.int ?_
      with_reducible refine WB.div (by walk_at "ar") (by walk_at "ar") ?_
      with_reducible refine WB.add ?_
      refine WB.mulS k0 (by omega) (show 1 ≤ 1000 by decide) ?_
      refine WB.addS (size_ok (by rw [app_len] at l8; omega)) ?_
      with_reducible refine WEs.nil ?_
      refine WCall.append hN (by simp; omega) ?_
      with_reducible refine WSs.nil ?_
      with_reducible refine WSs.nil ?_
      refine ⟨⟨gs ++ [_], by rw [List.map_append]; exact Hp.self, by rw [List.length_append]; simp; omega, fun y hy => ?_⟩, gone e hN, by walk_at "lk", by walk_at "lk", by walk_at "lk"⟩
      rcases List.mem_append.mp hy with q | q
      · exact gk y q
      · rw [List.mem_singleton.mp q]; exact ok
  clear hN gl gk gl' e hW r0 r1 r2 r3 hb2 hb hN1 hW1 e1
  clear gs ρ' σ'
  rintro ρ' σ' ⟨⟨gs, hN, gl, gk⟩, e, r0, r1, r3⟩
  have g5 : gs.length = 5 := by omega
  have hx0 : gs[0]? = some gs[0] := List.getElem?_eq_getElem (by omega)
  have hx1 : gs[1]? = some gs[1] := List.getElem?_eq_getElem (by omega)
  generalize gs[0] = x0 at hx0
  generalize gs[1] = x1 at hx1
  have ok0 := gk x0 (List.mem_of_getElem? hx0)
  have ok1 := gk x1 (List.mem_of_getElem? hx1)
  have y0 : (gs.map MV.str)[Int.toNat 0]? = some (.str x0) := by rw [List.getElem?_map]; exact congrArg (Option.map MV.str) hx0
  have y1 : (gs.map MV.str)[Int.toNat 1]? = some (.str x1) := by rw [List.getElem?_map]; exact congrArg (Option.map MV.str) hx1
  have l0 := ok0.l8
  have l1 := ok1.l8
  with_reducible refine WSs.cons ?_
  with_reducible refine WS.ret ?_
  with_reducible refine WE.binop ?_
  with_reducible refine WE.localA (by kernel_rfl) (by kernel_rfl) (by walk_at "lk") ?_
  refine WE.list 9 ?_
  with_reducible refine WEs.cons rfl ?_
  with_reducible refine WE.str ?_
  with_reducible refine WEs.cons rfl ?_
  with_reducible refine WE.binop ?_
  with_reducible refine WE.sub ?_
  with_reducible refine WE.localA (by kernel_rfl) (by kernel_rfl) (by walk_at "lk") ?_
  with_reducible refine WE.int ?_
  with_reducible refine WSub.list (by with_unfolding_all (first | exact fun _ _ => rfl | exact fun _ _ _ => rfl)) (by first | with_reducible assumption | ((with_reducible apply ListAt.own); walk_at "hp") | ((with_reducible apply ListAt.k); walk_at "hp")) (by walk_at "ar") (by walk_at "ar") (by with_reducible assumption) ?_
  with_reducible refine WE.str ?_
  refine WB.addS (size_ok (by show _ + 8 ≤ _; omega)) ?_
  with_reducible refine WEs.cons rfl ?_
  with_reducible refine WE.binop ?_
  with_reducible refine WE.str ?_
  refine WE.sliceToS (x := x1) (by with_unfolding_all (first | exact fun _ _ => rfl | exact fun _ _ _ => rfl)) (by omega) ?_
  with_reducible refine WE.sub ?_
  with_reducible refine WE.localA (by kernel_rfl) (by kernel_rfl) (by walk_at "lk") ?_
  with_reducible refine WE.int ?_
  with_reducible refine WSub.list (by with_unfolding_all (first | exact fun _ _ => rfl | exact fun _ _ _ => rfl)) (by first | with_reducible assumption | ((with_reducible apply ListAt.own); walk_at "hp") | ((with_reducible apply ListAt.k); walk_at "hp")) (by walk_at "ar") (by walk_at "ar") (by with_reducible assumption) ?_
  with_reducible refine WE.int ?_
  refine ⟨_, rfl, rfl, ?_⟩
  refine WB.addS (size_ok (by have := Txt.slice_le x1 Option.none (some 3); show 1 + _ ≤ _; omega)) ?_
  with_reducible refine WEs.cons rfl ?_
  with_reducible refine WE.sub ?_
  refine WE.list 9 ?_
  with_reducible refine WEs.cons rfl ?_
  with_reducible refine WE.int ?_
  with_reducible refine WEs.cons rfl ?_
  with_reducible refine WE.none ?_
  with_reducible refine WEs.cons rfl ?_
  refine WE.list 3 ?_
  with_reducible refine WEs.cons rfl ?_
  with_reducible refine WE.str ?_
  with_reducible refine WEs.nil ?_
  refine ⟨by simp, fun A hA => ?_⟩
  with_reducible refine WEs.cons rfl ?_
  with_reducible refine WE.bool ?_
  with_reducible refine WEs.nil ?_
  refine ⟨by simp, fun L hL => ?_⟩
  have w0 := fmod_ge (cell.fdiv 676) (show (1 : Int) ≤ 4 by decide)
  have w1 := fmod_lt (cell.fdiv 676) (show (1 : Int) ≤ 4 by decide)
  have w2 : (cell.fdiv 676).fmod 4 < 2 ^ 63 := by omega
  obtain ⟨o, ho, hoo⟩ := four_at (a := .int 7) (b := .none) (c := .ref A) (d := .bool true) w0 w1
  have e3 : Extd σ' ((σ'.put A 3 (.list [.str "a"])).put L 9 (.list [.int 7, .none, .ref A, .bool true])) := fun a p q => Hp.new hL.none (Hp.new hA.none q)
  have hL3 : ((σ'.put A 3 (.list [.str "a"])).put L 9 (.list [.int 7, .none, .ref A, .bool true])) L = some (9, .list [.int 7, .none, .ref A, .bool true]) := Hp.self
  have od : Odd ((σ'.put A 3 (.list [.str "a"])).put L 9 (.list [.int 7, .none, .ref A, .bool true])) o := by
    rcases hoo with q | q | q | q <;> rw [q]
    · exact .int
    · exact .none
    · exact .list (Hp.new hL.none Hp.self)
    · exact .bool
  have o3 : ∀ a, o = .ref a → ∃ xs, ((σ'.put A 3 (.list [.str "a"])).put L 9 (.list [.int 7, .none, .ref A, .bool true])) a = some (3, .list xs) := fun a e => by
    rcases hoo with q | q | q | q <;> rw [q] at e <;> cases e
    exact ⟨_, Hp.new hL.none Hp.self⟩
  generalize (σ'.put A 3 (.list [.str "a"])).put L 9 (.list [.int 7, .none, .ref A, .bool true]) = σ3 at e3 hL3 od o3 ⊢
  clear hA hL hoo
  have hN3 := e3 _ _ hN
  with_reducible refine WE.binop ?_
  with_reducible refine WE.binop ?_
  with_reducible refine WE.localA (by kernel_rfl) (by kernel_rfl) (by walk_at "lk") ?_
  with_reducible refine WE.int ?_
  with_reducible refine WB.div (by walk_at "ar") (by walk_at "ar") ?_
  with_reducible refine WE.int ?_
  with_reducible refine WB.mod (by walk_at "ar") ?_
  with_reducible refine WSub.list (by with_unfolding_all (first | exact fun _ _ => rfl | exact fun _ _ _ => rfl)) (by first | with_reducible assumption | ((with_reducible apply ListAt.own); walk_at "hp") | ((with_reducible apply ListAt.k); walk_at "hp")) (by walk_at "ar") (by walk_at "ar") (by with_reducible assumption) ?_
  with_reducible refine WEs.nil ?_
  refine ⟨by simp, fun E hE => ?_⟩
  refine WB.addL 2 (ListAt.own (Hp.new hE.none hN3)) (ListAt.own Hp.self) (by simp; omega) fun B hB => ?_
  skip
  exact hq B gs _ _ o _ ⟨Hp.self, g5, gk, ok0.long, ok1.capital, od.ext fun a p q => Hp.new hB.none (Hp.new hE.none q), fun a e => (o3 a e).imp fun xs q => Hp.new hB.none (Hp.new hE.none q)⟩ fun a p q => Hp.new hB.none (Hp.new hE.none (e3 _ _ (e _ _ q)))
theorem times {m : Nat} {hn : Bool} {sc' : Scope} {s C nE : Str} {a E t EC : Nat} {b : Bool} {k : Nat} {p1 p2 p3 p4 p5 p6 p7 p8 p9 : Pos} (li : sc'.names.lookup ("int" : Str) = some .globalImplicit) (ls : sc'.names.lookup ("isinstance" : Str) = some .globalImplicit) (le : sc'.names.lookup nE = some .local) (ld : (nE == ("__debug__" : Str)) = false) (lc : sc'.names.lookup C = some .globalImplicit) (gc : (cx w mean mg mb).glob C = some (.ref a)) (he : ρ nE = some (.ref E)) (hE : σ E = some (t, .exc EC)) (ok : ExcOk (cx w mean mg mb).K EC) (hk : kitOne (cx w mean mg mb).K (.ref EC) (.ref a) = some b)
    (hq : ∀ B σ', Extd σ σ' → σ' B = some (9, .list ((if b then [s] else []).map .str)) → Q (.ref B) σ') : WE (cx w mean mg mb) ⟨m, hn, sc'⟩ (.BinOp (.List [.Constant (.str s) k p1] p2) .Mult (.Call (.Name "int" p3) [.Call (.Name "isinstance" p4) [.Name nE p5, .Name C p6] [] p7] [] p8) p9) ρ Q X σ := by
  refine WE.binop ?_
  refine WE.list 9 ?_
  refine WEs.cons rfl ?_
  refine WE.str ?_
  refine WEs.nil ?_
  refine ⟨by simp, fun L hL => ?_⟩
  refine WE.call rfl rfl ?_
  refine WE.global li g_int ?_
  refine And.intro (Callee.con rfl) ?_
  refine WEs.cons rfl ?_
  refine WE.call rfl rfl ?_
  refine WE.global ls g_isinstance ?_
  refine And.intro (Callee.con rfl) ?_
  refine WEs.cons rfl ?_
  refine WE.local le ld he ?_
  refine WEs.cons rfl ?_
  refine WE.global lc gc ?_
  refine WEs.nil ?_
  refine WCall.isExc (b := b) (Hp.new hL.none hE) ok isRef hk ?_
  refine WEs.nil ?_
  refine WCall.intB ?_
  refine WB.mulL 9 Hp.self (by cases b <;> decide) (by cases b <;> decide) (by simp) fun B hB => ?_
  refine hq B _ (fun x p q => Hp.new hB.none (Hp.new hL.none q)) ?_
  have : (List.replicate (if b = true then (1 : Int) else 0).toNat [MV.str s]).flatten = (if b then [s] else []).map .str := by cases b <;> rfl
  rw [← this]
  exact Hp.self
theorem ifLe (b : Bool) (s : Str) : (if b = true then [s] else []).length ≤ 1 := by cases b <;> simp
theorem addLe {a b : List Str} {m k : Nat} (h : a.length ≤ m) (h' : b.length ≤ k) : (a ++ b).length ≤ m + k := by rw [List.length_append]; exact Nat.add_le_add h h'
def refL (b1 b2 b3 b4 b5 b6 b7 b8 b9 : Bool) : List Str := (((((((((if b1 then [("bad name" : Str)] else []) ++ (if b2 then [("twice" : Str)] else [])) ++ (if b3 then [("no team" : Str)] else [])) ++ (if b4 then [("bad share" : Str)] else [])) ++ (if b5 then [("no name" : Str)] else [])) ++ (if b6 then [("not empty" : Str)] else [])) ++ (if b7 then [("not a hand" : Str)] else [])) ++ (if b8 then [("count" : Str)] else [])) ++ (if b9 then [("deed" : Str)] else [])) ++ []
theorem refusal_c {hn : Bool} {E t EC : Nat} {b1 b2 b3 b4 b5 b6 b7 b8 b9 : Bool} (hE : σ E = some (t, .exc EC)) (ok : ExcOk (cx w mean mg mb).K EC) (k1 : kitOne (cx w mean mg mb).K (.ref EC) (.ref a_BadName) = some b1) (k2 : kitOne (cx w mean mg mb).K (.ref EC) (.ref a_Twice) = some b2) (k3 : kitOne (cx w mean mg mb).K (.ref EC) (.ref a_NoTeam) = some b3) (k4 : kitOne (cx w mean mg mb).K (.ref EC) (.ref a_BadShare) = some b4) (k5 : kitOne (cx w mean mg mb).K (.ref EC) (.ref a_NoName) = some b5) (k6 : kitOne (cx w mean mg mb).K (.ref EC) (.ref a_NotEmpty) = some b6) (k7 : kitOne (cx w mean mg mb).K (.ref EC) (.ref a_NotHand) = some b7) (k8 : kitOne (cx w mean mg mb).K (.ref EC) (.ref a_BadCount) = some b8) (k9 : kitOne (cx w mean mg mb).K (.ref EC) (.ref a_NoDeed) = some b9) (k10 : kitOne (cx w mean mg mb).K (.ref EC) (.type "ValueError") = some true)
    (hq : ∀ σ', Extd σ σ' → Q (.str (Txt.join "/" (refL b1 b2 b3 b4 b5 b6 b7 b8 b9))) σ') : WFn (cx w mean mg mb) ⟨n + 1, hn, sc⟩ a_law_refusal [.ref E] ρ Q X σ := by
  refine WFn.fn1 (p1 := "_law_error") ⟨⟨_, _, _, _, _, _, _, _, _, _, _, _, _, (rfl : (Mine.hd.heap_39 w.params).lookup a_law_refusal = _), by kernel_rfl, us1 fun _ => rfl⟩, by kernel_rfl⟩ ?_
  with_reducible refine WSs.cons ?_
  with_reducible refine WS.assign (by with_unfolding_all (first | exact fun _ _ => rfl | exact fun _ _ _ => rfl)) ?_
  with_reducible refine WE.binop ?_
  refine times (by kernel_rfl) (by kernel_rfl) (by kernel_rfl) (by kernel_rfl) (by kernel_rfl) g_BadName (by walk_at "lk") hE ok k1 fun B1 σ1 e1 h1 => ?_
  have hE1 := e1 _ _ hE
  refine times (by kernel_rfl) (by kernel_rfl) (by kernel_rfl) (by kernel_rfl) (by kernel_rfl) g_Twice (by walk_at "lk") hE1 ok k2 fun B2 σ2 e2 h2 => ?_
  refine WB.addL 9 (ListAt.own (e2 _ _ h1)) (ListAt.own h2) (by rw [List.length_map, List.length_map]; exact Nat.le_trans (Nat.add_le_add (ifLe _ _) (ifLe _ _)) (by decide)) fun F2 hF2 => ?_
  rw [← List.map_append]
  have x2 : Extd σ (σ2.put F2 9 (.list (((if b1 then [("bad name" : Str)] else []) ++ (if b2 then [("twice" : Str)] else [])).map .str))) := fun a p q => Hp.new hF2.none (e2 _ _ (e1 _ _ q))
  have f2 : (σ2.put F2 9 (.list (((if b1 then [("bad name" : Str)] else []) ++ (if b2 then [("twice" : Str)] else [])).map .str))) F2 = some (9, .list (((if b1 then [("bad name" : Str)] else []) ++ (if b2 then [("twice" : Str)] else [])).map .str)) := Hp.self
  have n2 : ((if b1 then [("bad name" : Str)] else []) ++ (if b2 then [("twice" : Str)] else [])).length ≤ 2 := addLe (ifLe _ _) (ifLe _ _)
  generalize σ2.put F2 9 (.list (((if b1 then [("bad name" : Str)] else []) ++ (if b2 then [("twice" : Str)] else [])).map .str)) = τ2 at x2 f2 ⊢
  with_reducible refine WSt.localA (by kernel_rfl) ?_
  with_reducible refine WSs.cons ?_
  with_reducible refine WS.assign (by with_unfolding_all (first | exact fun _ _ => rfl | exact fun _ _ _ => rfl)) ?_
  with_reducible refine WE.binop ?_
  with_reducible refine WE.binop ?_
  with_reducible refine WE.localA (by kernel_rfl) (by kernel_rfl) (by walk_at "lk") ?_
  have E3 := x2 _ _ hE
  refine times (by kernel_rfl) (by kernel_rfl) (by kernel_rfl) (by kernel_rfl) (by kernel_rfl) g_NoTeam (by walk_at "lk") E3 ok k3 fun B3 σ3 e3 h3 => ?_
  refine WB.addL 9 (ListAt.own (e3 _ _ f2)) (ListAt.own h3) (by rw [List.length_map, List.length_map]; exact Nat.le_trans (Nat.add_le_add n2 (ifLe _ _)) (by decide)) fun F3 hF3 => ?_
  rw [← List.map_append]
  have x3 : Extd σ (σ3.put F3 9 (.list ((((if b1 then [("bad name" : Str)] else []) ++ (if b2 then [("twice" : Str)] else [])) ++ (if b3 then [("no team" : Str)] else [])).map .str))) := fun a p q => Hp.new hF3.none (e3 _ _ (x2 _ _ q))
  have f3 : (σ3.put F3 9 (.list ((((if b1 then [("bad name" : Str)] else []) ++ (if b2 then [("twice" : Str)] else [])) ++ (if b3 then [("no team" : Str)] else [])).map .str))) F3 = some (9, .list ((((if b1 then [("bad name" : Str)] else []) ++ (if b2 then [("twice" : Str)] else [])) ++ (if b3 then [("no team" : Str)] else [])).map .str)) := Hp.self
  have n3 : (((if b1 then [("bad name" : Str)] else []) ++ (if b2 then [("twice" : Str)] else [])) ++ (if b3 then [("no team" : Str)] else [])).length ≤ 3 := addLe n2 (ifLe _ _)
  generalize σ3.put F3 9 (.list ((((if b1 then [("bad name" : Str)] else []) ++ (if b2 then [("twice" : Str)] else [])) ++ (if b3 then [("no team" : Str)] else [])).map .str)) = τ3 at x3 f3 ⊢
  have E4 := x3 _ _ hE
  refine times (by kernel_rfl) (by kernel_rfl) (by kernel_rfl) (by kernel_rfl) (by kernel_rfl) g_BadShare (by walk_at "lk") E4 ok k4 fun B4 σ4 e4 h4 => ?_
  refine WB.addL 9 (ListAt.own (e4 _ _ f3)) (ListAt.own h4) (by rw [List.length_map, List.length_map]; exact Nat.le_trans (Nat.add_le_add n3 (ifLe _ _)) (by decide)) fun F4 hF4 => ?_
  rw [← List.map_append]
  have x4 : Extd σ (σ4.put F4 9 (.list (((((if b1 then [("bad name" : Str)] else []) ++ (if b2 then [("twice" : Str)] else [])) ++ (if b3 then [("no team" : Str)] else [])) ++ (if b4 then [("bad share" : Str)] else [])).map .str))) := fun a p q => Hp.new hF4.none (e4 _ _ (x3 _ _ q))
  have f4 : (σ4.put F4 9 (.list (((((if b1 then [("bad name" : Str)] else []) ++ (if b2 then [("twice" : Str)] else [])) ++ (if b3 then [("no team" : Str)] else [])) ++ (if b4 then [("bad share" : Str)] else [])).map .str))) F4 = some (9, .list (((((if b1 then [("bad name" : Str)] else []) ++ (if b2 then [("twice" : Str)] else [])) ++ (if b3 then [("no team" : Str)] else [])) ++ (if b4 then [("bad share" : Str)] else [])).map .str)) := Hp.self
  have n4 : ((((if b1 then [("bad name" : Str)] else []) ++ (if b2 then [("twice" : Str)] else [])) ++ (if b3 then [("no team" : Str)] else [])) ++ (if b4 then [("bad share" : Str)] else [])).length ≤ 4 := addLe n3 (ifLe _ _)
  generalize σ4.put F4 9 (.list (((((if b1 then [("bad name" : Str)] else []) ++ (if b2 then [("twice" : Str)] else [])) ++ (if b3 then [("no team" : Str)] else [])) ++ (if b4 then [("bad share" : Str)] else [])).map .str)) = τ4 at x4 f4 ⊢
  with_reducible refine WSt.localA (by kernel_rfl) ?_
  with_reducible refine WSs.cons ?_
  with_reducible refine WS.assign (by with_unfolding_all (first | exact fun _ _ => rfl | exact fun _ _ _ => rfl)) ?_
  with_reducible refine WE.binop ?_
  with_reducible refine WE.binop ?_
  with_reducible refine WE.localA (by kernel_rfl) (by kernel_rfl) (by walk_at "lk") ?_
  have E5 := x4 _ _ hE
  refine times (by kernel_rfl) (by kernel_rfl) (by kernel_rfl) (by kernel_rfl) (by kernel_rfl) g_NoName (by walk_at "lk") E5 ok k5 fun B5 σ5 e5 h5 => ?_
  refine WB.addL 9 (ListAt.own (e5 _ _ f4)) (ListAt.own h5) (by rw [List.length_map, List.length_map]; exact Nat.le_trans (Nat.add_le_add n4 (ifLe _ _)) (by decide)) fun F5 hF5 => ?_
  rw [← List.map_append]
  have x5 : Extd σ (σ5.put F5 9 (.list ((((((if b1 then [("bad name" : Str)] else []) ++ (if b2 then [("twice" : Str)] else [])) ++ (if b3 then [("no team" : Str)] else [])) ++ (if b4 then [("bad share" : Str)] else [])) ++ (if b5 then [("no name" : Str)] else [])).map .str))) := fun a p q => Hp.new hF5.none (e5 _ _ (x4 _ _ q))
  have f5 : (σ5.put F5 9 (.list ((((((if b1 then [("bad name" : Str)] else []) ++ (if b2 then [("twice" : Str)] else [])) ++ (if b3 then [("no team" : Str)] else [])) ++ (if b4 then [("bad share" : Str)] else [])) ++ (if b5 then [("no name" : Str)] else [])).map .str))) F5 = some (9, .list ((((((if b1 then [("bad name" : Str)] else []) ++ (if b2 then [("twice" : Str)] else [])) ++ (if b3 then [("no team" : Str)] else [])) ++ (if b4 then [("bad share" : Str)] else [])) ++ (if b5 then [("no name" : Str)] else [])).map .str)) := Hp.self
  have n5 : (((((if b1 then [("bad name" : Str)] else []) ++ (if b2 then [("twice" : Str)] else [])) ++ (if b3 then [("no team" : Str)] else [])) ++ (if b4 then [("bad share" : Str)] else [])) ++ (if b5 then [("no name" : Str)] else [])).length ≤ 5 := addLe n4 (ifLe _ _)
  generalize σ5.put F5 9 (.list ((((((if b1 then [("bad name" : Str)] else []) ++ (if b2 then [("twice" : Str)] else [])) ++ (if b3 then [("no team" : Str)] else [])) ++ (if b4 then [("bad share" : Str)] else [])) ++ (if b5 then [("no name" : Str)] else [])).map .str)) = τ5 at x5 f5 ⊢
  have E6 := x5 _ _ hE
  refine times (by kernel_rfl) (by kernel_rfl) (by kernel_rfl) (by kernel_rfl) (by kernel_rfl) g_NotEmpty (by walk_at "lk") E6 ok k6 fun B6 σ6 e6 h6 => ?_
  refine WB.addL 9 (ListAt.own (e6 _ _ f5)) (ListAt.own h6) (by rw [List.length_map, List.length_map]; exact Nat.le_trans (Nat.add_le_add n5 (ifLe _ _)) (by decide)) fun F6 hF6 => ?_
  rw [← List.map_append]
  have x6 : Extd σ (σ6.put F6 9 (.list (((((((if b1 then [("bad name" : Str)] else []) ++ (if b2 then [("twice" : Str)] else [])) ++ (if b3 then [("no team" : Str)] else [])) ++ (if b4 then [("bad share" : Str)] else [])) ++ (if b5 then [("no name" : Str)] else [])) ++ (if b6 then [("not empty" : Str)] else [])).map .str))) := fun a p q => Hp.new hF6.none (e6 _ _ (x5 _ _ q))
  have f6 : (σ6.put F6 9 (.list (((((((if b1 then [("bad name" : Str)] else []) ++ (if b2 then [("twice" : Str)] else [])) ++ (if b3 then [("no team" : Str)] else [])) ++ (if b4 then [("bad share" : Str)] else [])) ++ (if b5 then [("no name" : Str)] else [])) ++ (if b6 then [("not empty" : Str)] else [])).map .str))) F6 = some (9, .list (((((((if b1 then [("bad name" : Str)] else []) ++ (if b2 then [("twice" : Str)] else [])) ++ (if b3 then [("no team" : Str)] else [])) ++ (if b4 then [("bad share" : Str)] else [])) ++ (if b5 then [("no name" : Str)] else [])) ++ (if b6 then [("not empty" : Str)] else [])).map .str)) := Hp.self
  have n6 : ((((((if b1 then [("bad name" : Str)] else []) ++ (if b2 then [("twice" : Str)] else [])) ++ (if b3 then [("no team" : Str)] else [])) ++ (if b4 then [("bad share" : Str)] else [])) ++ (if b5 then [("no name" : Str)] else [])) ++ (if b6 then [("not empty" : Str)] else [])).length ≤ 6 := addLe n5 (ifLe _ _)
  generalize σ6.put F6 9 (.list (((((((if b1 then [("bad name" : Str)] else []) ++ (if b2 then [("twice" : Str)] else [])) ++ (if b3 then [("no team" : Str)] else [])) ++ (if b4 then [("bad share" : Str)] else [])) ++ (if b5 then [("no name" : Str)] else [])) ++ (if b6 then [("not empty" : Str)] else [])).map .str)) = τ6 at x6 f6 ⊢
  with_reducible refine WSt.localA (by kernel_rfl) ?_
  with_reducible refine WSs.cons ?_
  with_reducible refine WS.assign (by with_unfolding_all (first | exact fun _ _ => rfl | exact fun _ _ _ => rfl)) ?_
  with_reducible refine WE.binop ?_
  with_reducible refine WE.binop ?_
  with_reducible refine WE.localA (by kernel_rfl) (by kernel_rfl) (by walk_at "lk") ?_
  have E7 := x6 _ _ hE
  refine times (by kernel_rfl) (by kernel_rfl) (by kernel_rfl) (by kernel_rfl) (by kernel_rfl) g_NotHand (by walk_at "lk") E7 ok k7 fun B7 σ7 e7 h7 => ?_
  refine WB.addL 9 (ListAt.own (e7 _ _ f6)) (ListAt.own h7) (by rw [List.length_map, List.length_map]; exact Nat.le_trans (Nat.add_le_add n6 (ifLe _ _)) (by decide)) fun F7 hF7 => ?_
  rw [← List.map_append]
  have x7 : Extd σ (σ7.put F7 9 (.list ((((((((if b1 then [("bad name" : Str)] else []) ++ (if b2 then [("twice" : Str)] else [])) ++ (if b3 then [("no team" : Str)] else [])) ++ (if b4 then [("bad share" : Str)] else [])) ++ (if b5 then [("no name" : Str)] else [])) ++ (if b6 then [("not empty" : Str)] else [])) ++ (if b7 then [("not a hand" : Str)] else [])).map .str))) := fun a p q => Hp.new hF7.none (e7 _ _ (x6 _ _ q))
  have f7 : (σ7.put F7 9 (.list ((((((((if b1 then [("bad name" : Str)] else []) ++ (if b2 then [("twice" : Str)] else [])) ++ (if b3 then [("no team" : Str)] else [])) ++ (if b4 then [("bad share" : Str)] else [])) ++ (if b5 then [("no name" : Str)] else [])) ++ (if b6 then [("not empty" : Str)] else [])) ++ (if b7 then [("not a hand" : Str)] else [])).map .str))) F7 = some (9, .list ((((((((if b1 then [("bad name" : Str)] else []) ++ (if b2 then [("twice" : Str)] else [])) ++ (if b3 then [("no team" : Str)] else [])) ++ (if b4 then [("bad share" : Str)] else [])) ++ (if b5 then [("no name" : Str)] else [])) ++ (if b6 then [("not empty" : Str)] else [])) ++ (if b7 then [("not a hand" : Str)] else [])).map .str)) := Hp.self
  have n7 : (((((((if b1 then [("bad name" : Str)] else []) ++ (if b2 then [("twice" : Str)] else [])) ++ (if b3 then [("no team" : Str)] else [])) ++ (if b4 then [("bad share" : Str)] else [])) ++ (if b5 then [("no name" : Str)] else [])) ++ (if b6 then [("not empty" : Str)] else [])) ++ (if b7 then [("not a hand" : Str)] else [])).length ≤ 7 := addLe n6 (ifLe _ _)
  generalize σ7.put F7 9 (.list ((((((((if b1 then [("bad name" : Str)] else []) ++ (if b2 then [("twice" : Str)] else [])) ++ (if b3 then [("no team" : Str)] else [])) ++ (if b4 then [("bad share" : Str)] else [])) ++ (if b5 then [("no name" : Str)] else [])) ++ (if b6 then [("not empty" : Str)] else [])) ++ (if b7 then [("not a hand" : Str)] else [])).map .str)) = τ7 at x7 f7 ⊢
  have E8 := x7 _ _ hE
  refine times (by kernel_rfl) (by kernel_rfl) (by kernel_rfl) (by kernel_rfl) (by kernel_rfl) g_BadCount (by walk_at "lk") E8 ok k8 fun B8 σ8 e8 h8 => ?_
  refine WB.addL 9 (ListAt.own (e8 _ _ f7)) (ListAt.own h8) (by rw [List.length_map, List.length_map]; exact Nat.le_trans (Nat.add_le_add n7 (ifLe _ _)) (by decide)) fun F8 hF8 => ?_
  rw [← List.map_append]
  have x8 : Extd σ (σ8.put F8 9 (.list (((((((((if b1 then [("bad name" : Str)] else []) ++ (if b2 then [("twice" : Str)] else [])) ++ (if b3 then [("no team" : Str)] else [])) ++ (if b4 then [("bad share" : Str)] else [])) ++ (if b5 then [("no name" : Str)] else [])) ++ (if b6 then [("not empty" : Str)] else [])) ++ (if b7 then [("not a hand" : Str)] else [])) ++ (if b8 then [("count" : Str)] else [])).map .str))) := fun a p q => Hp.new hF8.none (e8 _ _ (x7 _ _ q))
  have f8 : (σ8.put F8 9 (.list (((((((((if b1 then [("bad name" : Str)] else []) ++ (if b2 then [("twice" : Str)] else [])) ++ (if b3 then [("no team" : Str)] else [])) ++ (if b4 then [("bad share" : Str)] else [])) ++ (if b5 then [("no name" : Str)] else [])) ++ (if b6 then [("not empty" : Str)] else [])) ++ (if b7 then [("not a hand" : Str)] else [])) ++ (if b8 then [("count" : Str)] else [])).map .str))) F8 = some (9, .list (((((((((if b1 then [("bad name" : Str)] else []) ++ (if b2 then [("twice" : Str)] else [])) ++ (if b3 then [("no team" : Str)] else [])) ++ (if b4 then [("bad share" : Str)] else [])) ++ (if b5 then [("no name" : Str)] else [])) ++ (if b6 then [("not empty" : Str)] else [])) ++ (if b7 then [("not a hand" : Str)] else [])) ++ (if b8 then [("count" : Str)] else [])).map .str)) := Hp.self
  have n8 : ((((((((if b1 then [("bad name" : Str)] else []) ++ (if b2 then [("twice" : Str)] else [])) ++ (if b3 then [("no team" : Str)] else [])) ++ (if b4 then [("bad share" : Str)] else [])) ++ (if b5 then [("no name" : Str)] else [])) ++ (if b6 then [("not empty" : Str)] else [])) ++ (if b7 then [("not a hand" : Str)] else [])) ++ (if b8 then [("count" : Str)] else [])).length ≤ 8 := addLe n7 (ifLe _ _)
  generalize σ8.put F8 9 (.list (((((((((if b1 then [("bad name" : Str)] else []) ++ (if b2 then [("twice" : Str)] else [])) ++ (if b3 then [("no team" : Str)] else [])) ++ (if b4 then [("bad share" : Str)] else [])) ++ (if b5 then [("no name" : Str)] else [])) ++ (if b6 then [("not empty" : Str)] else [])) ++ (if b7 then [("not a hand" : Str)] else [])) ++ (if b8 then [("count" : Str)] else [])).map .str)) = τ8 at x8 f8 ⊢
  with_reducible refine WSt.localA (by kernel_rfl) ?_
  with_reducible refine WSs.cons ?_
  with_reducible refine WS.assign (by with_unfolding_all (first | exact fun _ _ => rfl | exact fun _ _ _ => rfl)) ?_
  with_reducible refine WE.binop ?_
  with_reducible refine WE.binop ?_
  with_reducible refine WE.localA (by kernel_rfl) (by kernel_rfl) (by walk_at "lk") ?_
  have E9 := x8 _ _ hE
  refine times (by kernel_rfl) (by kernel_rfl) (by kernel_rfl) (by kernel_rfl) (by kernel_rfl) g_NoDeed (by walk_at "lk") E9 ok k9 fun B9 σ9 e9 h9 => ?_
  refine WB.addL 9 (ListAt.own (e9 _ _ f8)) (ListAt.own h9) (by rw [List.length_map, List.length_map]; exact Nat.le_trans (Nat.add_le_add n8 (ifLe _ _)) (by decide)) fun F9 hF9 => ?_
  rw [← List.map_append]
  have x9 : Extd σ (σ9.put F9 9 (.list ((((((((((if b1 then [("bad name" : Str)] else []) ++ (if b2 then [("twice" : Str)] else [])) ++ (if b3 then [("no team" : Str)] else [])) ++ (if b4 then [("bad share" : Str)] else [])) ++ (if b5 then [("no name" : Str)] else [])) ++ (if b6 then [("not empty" : Str)] else [])) ++ (if b7 then [("not a hand" : Str)] else [])) ++ (if b8 then [("count" : Str)] else [])) ++ (if b9 then [("deed" : Str)] else [])).map .str))) := fun a p q => Hp.new hF9.none (e9 _ _ (x8 _ _ q))
  have f9 : (σ9.put F9 9 (.list ((((((((((if b1 then [("bad name" : Str)] else []) ++ (if b2 then [("twice" : Str)] else [])) ++ (if b3 then [("no team" : Str)] else [])) ++ (if b4 then [("bad share" : Str)] else [])) ++ (if b5 then [("no name" : Str)] else [])) ++ (if b6 then [("not empty" : Str)] else [])) ++ (if b7 then [("not a hand" : Str)] else [])) ++ (if b8 then [("count" : Str)] else [])) ++ (if b9 then [("deed" : Str)] else [])).map .str))) F9 = some (9, .list ((((((((((if b1 then [("bad name" : Str)] else []) ++ (if b2 then [("twice" : Str)] else [])) ++ (if b3 then [("no team" : Str)] else [])) ++ (if b4 then [("bad share" : Str)] else [])) ++ (if b5 then [("no name" : Str)] else [])) ++ (if b6 then [("not empty" : Str)] else [])) ++ (if b7 then [("not a hand" : Str)] else [])) ++ (if b8 then [("count" : Str)] else [])) ++ (if b9 then [("deed" : Str)] else [])).map .str)) := Hp.self
  have n9 : (((((((((if b1 then [("bad name" : Str)] else []) ++ (if b2 then [("twice" : Str)] else [])) ++ (if b3 then [("no team" : Str)] else [])) ++ (if b4 then [("bad share" : Str)] else [])) ++ (if b5 then [("no name" : Str)] else [])) ++ (if b6 then [("not empty" : Str)] else [])) ++ (if b7 then [("not a hand" : Str)] else [])) ++ (if b8 then [("count" : Str)] else [])) ++ (if b9 then [("deed" : Str)] else [])).length ≤ 9 := addLe n8 (ifLe _ _)
  generalize σ9.put F9 9 (.list ((((((((((if b1 then [("bad name" : Str)] else []) ++ (if b2 then [("twice" : Str)] else [])) ++ (if b3 then [("no team" : Str)] else [])) ++ (if b4 then [("bad share" : Str)] else [])) ++ (if b5 then [("no name" : Str)] else [])) ++ (if b6 then [("not empty" : Str)] else [])) ++ (if b7 then [("not a hand" : Str)] else [])) ++ (if b8 then [("count" : Str)] else [])) ++ (if b9 then [("deed" : Str)] else [])).map .str)) = τ9 at x9 f9 ⊢
  have E10 := x9 _ _ hE
  with_reducible refine WE.binop ?_
  refine WE.list 9 ?_
  with_reducible refine WEs.cons rfl ?_
  with_reducible refine WE.str ?_
  with_reducible refine WEs.nil ?_
  refine ⟨by simp, fun L hL => ?_⟩
  with_reducible refine WE.call rfl rfl ?_
  with_reducible refine WE.globalA (by kernel_rfl) g_int ?_
  with_reducible refine And.intro (Callee.con rfl) ?_
  with_reducible refine WEs.cons rfl ?_
  with_reducible refine WE.unary ?_
  with_reducible refine WE.call rfl rfl ?_
  with_reducible refine WE.globalA (by kernel_rfl) g_isinstance ?_
  with_reducible refine And.intro (Callee.con rfl) ?_
  with_reducible refine WEs.cons rfl ?_
  with_reducible refine WE.localA (by kernel_rfl) (by kernel_rfl) (by walk_at "lk") ?_
  with_reducible refine WEs.cons rfl ?_
  with_reducible refine WE.globalA (by kernel_rfl) g_ValueError ?_
  with_reducible refine WEs.nil ?_
  refine WCall.isExc (b := true) (Hp.new hL.none E10) ok isCon k10 ?_
  with_reducible refine WU.not ?_
  with_reducible refine WTr.bool ?_
  with_reducible refine WEs.nil ?_
  refine WCall.intB ?_
  refine WB.mulL 9 Hp.self (by decide) (by decide) (by simp) fun M hM => ?_
  refine WB.addL 9 (ListAt.own (Hp.new hM.none (Hp.new hL.none f9))) (ListAt.own Hp.self) (by rw [List.length_map]; exact Nat.le_trans (Nat.add_le_add n9 (Nat.le_refl _)) (by decide)) fun F hF => ?_
  have x10 : Extd σ (((τ9.put L 9 (.list [.str "base"])).put M 9 (.list [])).put F 9 (.list ((refL b1 b2 b3 b4 b5 b6 b7 b8 b9).map .str))) := fun a p q => Hp.new hF.none (Hp.new hM.none (Hp.new hL.none (x9 _ _ q)))
  have f10 : (((τ9.put L 9 (.list [.str "base"])).put M 9 (.list [])).put F 9 (.list ((refL b1 b2 b3 b4 b5 b6 b7 b8 b9).map .str))) F = some (9, .list ((refL b1 b2 b3 b4 b5 b6 b7 b8 b9).map .str)) := Hp.self
  have er : (refL b1 b2 b3 b4 b5 b6 b7 b8 b9).map MV.str = (((((((((if b1 then [("bad name" : Str)] else []) ++ (if b2 then [("twice" : Str)] else [])) ++ (if b3 then [("no team" : Str)] else [])) ++ (if b4 then [("bad share" : Str)] else [])) ++ (if b5 then [("no name" : Str)] else [])) ++ (if b6 then [("not empty" : Str)] else [])) ++ (if b7 then [("not a hand" : Str)] else [])) ++ (if b8 then [("count" : Str)] else [])) ++ (if b9 then [("deed" : Str)] else [])).map .str ++ (List.replicate (if (!true) = true then (1 : Int) else 0).toNat [MV.str "base"]).flatten := by unfold refL; rw [List.map_append]; rfl
  rw [← er]
  change WSt _ _ _ _ _ _ _ (((τ9.put L 9 (.list [.str "base"])).put M 9 (.list [])).put F 9 (.list ((refL b1 b2 b3 b4 b5 b6 b7 b8 b9).map .str)))
  generalize ((τ9.put L 9 (.list [.str "base"])).put M 9 (.list [])).put F 9 (.list ((refL b1 b2 b3 b4 b5 b6 b7 b8 b9).map .str)) = τ10 at x10 f10 ⊢
  with_reducible refine WSt.localA (by kernel_rfl) ?_
  with_reducible refine WSs.cons ?_
  with_reducible refine WS.ret ?_
  with_reducible refine WE.method (by with_unfolding_all (first | exact fun _ _ => rfl | exact fun _ _ _ => rfl)) rfl rfl rfl ?_
  with_reducible refine WE.str ?_
  refine WM.join ?_
  with_reducible refine And.intro (Callee.con rfl) ?_
  with_reducible refine WEs.cons rfl ?_
  with_reducible refine WE.localA (by kernel_rfl) (by kernel_rfl) (by walk_at "lk") ?_
  with_reducible refine WEs.nil ?_
  refine WCall.join (ListAt.own f10) ?_ ?_
  · have : ∀ b1 b2 b3 b4 b5 b6 b7 b8 b9, ((refL b1 b2 b3 b4 b5 b6 b7 b8 b9).map (·.length)).sum + (refL b1 b2 b3 b4 b5 b6 b7 b8 b9).length * ("/" : Str).length ≤ 16777216 := by decide
    exact this b1 b2 b3 b4 b5 b6 b7 b8 b9
  skip
  exact hq _ x10
theorem hand_ShareError {m : Nat} {hn : Bool} {sc' : Scope} (h : sc'.names.lookup ("ShareError" : Str) = some .globalImplicit) : HandOk (cx w mean mg mb) ⟨m, hn, sc'⟩ "ShareError" a_ShareError := ⟨h, g_ShareError, by kernel_rfl, by kernel_rfl, by kernel_rfl⟩
theorem hand_NoTeam {m : Nat} {hn : Bool} {sc' : Scope} (h : sc'.names.lookup ("NoTeam" : Str) = some .globalImplicit) : HandOk (cx w mean mg mb) ⟨m, hn, sc'⟩ "NoTeam" a_NoTeam := ⟨h, g_NoTeam, by kernel_rfl, by kernel_rfl, by kernel_rfl⟩
/-- how a refusal is told -/
structure Ref9 (w : World) (mean : ExcName → Option Value) (mg mb : Str → Option Value) (C : Nat) (s : Str) : Prop where
  sub : subIn (cx w mean mg mb).K (.ref C) (.ref a_ShareError) = some true
  ref : ∀ {σ : Hp} {E t n : Nat} {hn : Bool} {sc : Scope} {ρ : Lo} {Q : MV → Hp → Prop} {X : EX}, σ E = some (t, .exc C) → (∀ σ', Extd σ σ' → Q (.str s) σ') → WFn (cx w mean mg mb) ⟨n + 1, hn, sc⟩ a_law_refusal [.ref E] ρ Q X σ
theorem exc_BadName : ExcOk (cx w mean mg mb).K a_BadName := ⟨by kernel_rfl, by kernel_rfl, by kernel_rfl, by kernel_rfl, by kernel_rfl, by kernel_rfl⟩
theorem ref_BadName : Ref9 w mean mg mb a_BadName "bad name" where
  sub := by kernel_rfl
  ref := fun hE hq => refusal_c (b1 := true) (b2 := false) (b3 := false) (b4 := false) (b5 := false) (b6 := false) (b7 := false) (b8 := false) (b9 := false) hE exc_BadName (by kernel_rfl) (by kernel_rfl) (by kernel_rfl) (by kernel_rfl) (by kernel_rfl) (by kernel_rfl) (by kernel_rfl) (by kernel_rfl) (by kernel_rfl) (by kernel_rfl) fun σ' e => by
    have ej : Txt.join "/" (refL true false false false false false false false false) = "bad name" := by kernel_rfl
    rw [ej]; exact hq σ' e
theorem exc_Twice : ExcOk (cx w mean mg mb).K a_Twice := ⟨by kernel_rfl, by kernel_rfl, by kernel_rfl, by kernel_rfl, by kernel_rfl, by kernel_rfl⟩
theorem ref_Twice : Ref9 w mean mg mb a_Twice "twice" where
  sub := by kernel_rfl
  ref := fun hE hq => refusal_c (b1 := false) (b2 := true) (b3 := false) (b4 := false) (b5 := false) (b6 := false) (b7 := false) (b8 := false) (b9 := false) hE exc_Twice (by kernel_rfl) (by kernel_rfl) (by kernel_rfl) (by kernel_rfl) (by kernel_rfl) (by kernel_rfl) (by kernel_rfl) (by kernel_rfl) (by kernel_rfl) (by kernel_rfl) fun σ' e => by
    have ej : Txt.join "/" (refL false true false false false false false false false) = "twice" := by kernel_rfl
    rw [ej]; exact hq σ' e
theorem exc_NoTeam : ExcOk (cx w mean mg mb).K a_NoTeam := ⟨by kernel_rfl, by kernel_rfl, by kernel_rfl, by kernel_rfl, by kernel_rfl, by kernel_rfl⟩
theorem ref_NoTeam : Ref9 w mean mg mb a_NoTeam "no team" where
  sub := by kernel_rfl
  ref := fun hE hq => refusal_c (b1 := false) (b2 := false) (b3 := true) (b4 := false) (b5 := false) (b6 := false) (b7 := false) (b8 := false) (b9 := false) hE exc_NoTeam (by kernel_rfl) (by kernel_rfl) (by kernel_rfl) (by kernel_rfl) (by kernel_rfl) (by kernel_rfl) (by kernel_rfl) (by kernel_rfl) (by kernel_rfl) (by kernel_rfl) fun σ' e => by
    have ej : Txt.join "/" (refL false false true false false false false false false) = "no team" := by kernel_rfl
    rw [ej]; exact hq σ' e
theorem exc_BadShare : ExcOk (cx w mean mg mb).K a_BadShare := ⟨by kernel_rfl, by kernel_rfl, by kernel_rfl, by kernel_rfl, by kernel_rfl, by kernel_rfl⟩
theorem ref_BadShare : Ref9 w mean mg mb a_BadShare "bad share" where
  sub := by kernel_rfl
  ref := fun hE hq => refusal_c (b1 := false) (b2 := false) (b3 := false) (b4 := true) (b5 := false) (b6 := false) (b7 := false) (b8 := false) (b9 := false) hE exc_BadShare (by kernel_rfl) (by kernel_rfl) (by kernel_rfl) (by kernel_rfl) (by kernel_rfl) (by kernel_rfl) (by kernel_rfl) (by kernel_rfl) (by kernel_rfl) (by kernel_rfl) fun σ' e => by
    have ej : Txt.join "/" (refL false false false true false false false false false) = "bad share" := by kernel_rfl
    rw [ej]; exact hq σ' e
theorem exc_NoName : ExcOk (cx w mean mg mb).K a_NoName := ⟨by kernel_rfl, by kernel_rfl, by kernel_rfl, by kernel_rfl, by kernel_rfl, by kernel_rfl⟩
theorem ref_NoName : Ref9 w mean mg mb a_NoName "no name" where
  sub := by kernel_rfl
  ref := fun hE hq => refusal_c (b1 := false) (b2 := false) (b3 := false) (b4 := false) (b5 := true) (b6 := false) (b7 := false) (b8 := false) (b9 := false) hE exc_NoName (by kernel_rfl) (by kernel_rfl) (by kernel_rfl) (by kernel_rfl) (by kernel_rfl) (by kernel_rfl) (by kernel_rfl) (by kernel_rfl) (by kernel_rfl) (by kernel_rfl) fun σ' e => by
    have ej : Txt.join "/" (refL false false false false true false false false false) = "no name" := by kernel_rfl
    rw [ej]; exact hq σ' e
theorem exc_NotEmpty : ExcOk (cx w mean mg mb).K a_NotEmpty := ⟨by kernel_rfl, by kernel_rfl, by kernel_rfl, by kernel_rfl, by kernel_rfl, by kernel_rfl⟩
theorem ref_NotEmpty : Ref9 w mean mg mb a_NotEmpty "not empty" where
  sub := by kernel_rfl
  ref := fun hE hq => refusal_c (b1 := false) (b2 := false) (b3 := false) (b4 := false) (b5 := false) (b6 := true) (b7 := false) (b8 := false) (b9 := false) hE exc_NotEmpty (by kernel_rfl) (by kernel_rfl) (by kernel_rfl) (by kernel_rfl) (by kernel_rfl) (by kernel_rfl) (by kernel_rfl) (by kernel_rfl) (by kernel_rfl) (by kernel_rfl) fun σ' e => by
    have ej : Txt.join "/" (refL false false false false false true false false false) = "not empty" := by kernel_rfl
    rw [ej]; exact hq σ' e
theorem done_bad0 {H dw da C : Nat} {tm : List Team} {ab : List (Str × Str)} {u u' v : MV} {s : Str} (h : HouseD σ H dw da tm ab) (R : Ref9 w mean mg mb C s) (hs : ∀ {Q' : MV → Hp → Prop} {ρ' : Lo} {sc' : Scope} {X' : EX}, (∀ e σ', Extd σ σ' → X' false C e σ') → WFn (cx w mean mg mb) ⟨n + 5, true, sc'⟩ m_House_team [.ref H, u, u', v] ρ' Q' X' σ) (hq : ∀ σ', Extd σ σ' → Q (.str s) σ') : WFn (cx w mean mg mb) ⟨n + 6, true, sc⟩ a_law_done [.ref H, .int 0, u, u', v] ρ Q X σ := by
  have hH := h.hou
  refine WFn.fn5 (p1 := "_law_house") (p2 := "_law_kind") (p3 := "_law_name") (p4 := "_law_above") (p5 := "_law_share") ⟨⟨_, _, _, _, _, _, _, _, _, _, _, _, _, (rfl : (Mine.hd.heap_39 w.params).lookup a_law_done = _), by kernel_rfl, us5 fun _ _ _ _ _ => rfl⟩, by kernel_rfl⟩ ?_
  with_reducible refine WSs.cons ?_
  refine WS.try ?_
  with_reducible refine WSs.cons ?_
  with_reducible refine WS.ite ?_
  with_reducible refine WT.cmp1 rfl ?_
  with_reducible refine WE.localA (by kernel_rfl) (by kernel_rfl) (by walk_at "lk") ?_
  with_reducible refine WE.int ?_
  with_reducible refine WC.eqI ?_
  with_reducible refine WTr.bool ?_
  with_reducible refine if_pt (by decide) ?_
  with_reducible refine WSs.cons ?_
  with_reducible refine WS.ret ?_
  with_reducible refine WE.method (by with_unfolding_all (first | exact fun _ _ => rfl | exact fun _ _ _ => rfl)) rfl rfl rfl ?_
  with_reducible refine WE.localA (by kernel_rfl) (by kernel_rfl) (by walk_at "lk") ?_
  with_reducible refine WM.inst (by walk_at "hp") ms_House_team (by kernel_rfl) ?_
  with_reducible refine And.intro (Callee.meth ms_House_team) ?_
  with_reducible refine WEs.cons rfl ?_
  with_reducible refine WE.localA (by kernel_rfl) (by kernel_rfl) (by walk_at "lk") ?_
  with_reducible refine WEs.cons rfl ?_
  with_reducible refine WE.localA (by kernel_rfl) (by kernel_rfl) (by walk_at "lk") ?_
  with_reducible refine WEs.cons rfl ?_
  with_reducible refine WE.localA (by kernel_rfl) (by kernel_rfl) (by walk_at "lk") ?_
  with_reducible refine WEs.nil ?_
  refine WCall.of_fn (hs fun e σ1 e1 => ?_)
  refine ⟨rfl, WH.hitAsA 9 (hand_ShareError (by kernel_rfl)) R.sub (by kernel_rfl) fun he => ?_⟩
  with_reducible refine WSs.cons ?_
  with_reducible refine WS.ret ?_
  with_reducible refine WE.call rfl rfl ?_
  with_reducible refine WE.globalA (by kernel_rfl) g_law_refusal ?_
  with_reducible refine And.intro (Callee.fn fn_law_refusal) ?_
  with_reducible refine WEs.cons rfl ?_
  with_reducible refine WE.localA (by kernel_rfl) (by kernel_rfl) (by walk_at "lk") ?_
  with_reducible refine WEs.nil ?_
  refine WCall.of_fn (R.ref Hp.self fun σ2 e2 => ?_)
  skip
  exact hq σ2 fun a p q => e2 _ _ (Hp.new he (e1 _ _ q))
theorem done_ok0 {H dw da : Nat} {tm : List Team} {ab : List (Str × Str)} {u u' v : MV} (P : Hp → Prop) (h : HouseD σ H dw da tm ab) (hs : ∀ {Q' : MV → Hp → Prop} {ρ' : Lo} {sc' : Scope} {X' : EX}, (∀ σ', P σ' → Q' .none σ') → WFn (cx w mean mg mb) ⟨n + 5, true, sc'⟩ m_House_team [.ref H, u, u', v] ρ' Q' X' σ) (hq : ∀ σ', P σ' → Q .none σ') : WFn (cx w mean mg mb) ⟨n + 6, true, sc⟩ a_law_done [.ref H, .int 0, u, u', v] ρ Q X σ := by
  have hH := h.hou
  refine WFn.fn5 (p1 := "_law_house") (p2 := "_law_kind") (p3 := "_law_name") (p4 := "_law_above") (p5 := "_law_share") ⟨⟨_, _, _, _, _, _, _, _, _, _, _, _, _, (rfl : (Mine.hd.heap_39 w.params).lookup a_law_done = _), by kernel_rfl, us5 fun _ _ _ _ _ => rfl⟩, by kernel_rfl⟩ ?_
  with_reducible refine WSs.cons ?_
  refine WS.try ?_
  with_reducible refine WSs.cons ?_
  with_reducible refine WS.ite ?_
  with_reducible refine WT.cmp1 rfl ?_
  with_reducible refine WE.localA (by kernel_rfl) (by kernel_rfl) (by walk_at "lk") ?_
  with_reducible refine WE.int ?_
  with_reducible refine WC.eqI ?_
  with_reducible refine WTr.bool ?_
  with_reducible refine if_pt (by decide) ?_
  with_reducible refine WSs.cons ?_
  with_reducible refine WS.ret ?_
  with_reducible refine WE.method (by with_unfolding_all (first | exact fun _ _ => rfl | exact fun _ _ _ => rfl)) rfl rfl rfl ?_
  with_reducible refine WE.localA (by kernel_rfl) (by kernel_rfl) (by walk_at "lk") ?_
  with_reducible refine WM.inst (by walk_at "hp") ms_House_team (by kernel_rfl) ?_
  with_reducible refine And.intro (Callee.meth ms_House_team) ?_
  with_reducible refine WEs.cons rfl ?_
  with_reducible refine WE.localA (by kernel_rfl) (by kernel_rfl) (by walk_at "lk") ?_
  with_reducible refine WEs.cons rfl ?_
  with_reducible refine WE.localA (by kernel_rfl) (by kernel_rfl) (by walk_at "lk") ?_
  with_reducible refine WEs.cons rfl ?_
  with_reducible refine WE.localA (by kernel_rfl) (by kernel_rfl) (by walk_at "lk") ?_
  with_reducible refine WEs.nil ?_
  refine WCall.of_fn (hs fun σ1 p1 => ?_)
  skip
  exact hq σ1 p1
theorem done_bad1 {H dw da C : Nat} {tm : List Team} {ab : List (Str × Str)} {u u' v : MV} {s : Str} (h : HouseD σ H dw da tm ab) (R : Ref9 w mean mg mb C s) (hs : ∀ {Q' : MV → Hp → Prop} {ρ' : Lo} {sc' : Scope} {X' : EX}, (∀ e σ', Extd σ σ' → X' false C e σ') → WFn (cx w mean mg mb) ⟨n + 5, true, sc'⟩ m_House_hand [.ref H, u, u', v] ρ' Q' X' σ) (hq : ∀ σ', Extd σ σ' → Q (.str s) σ') : WFn (cx w mean mg mb) ⟨n + 6, true, sc⟩ a_law_done [.ref H, .int 1, u, u', v] ρ Q X σ := by
  have hH := h.hou
  refine WFn.fn5 (p1 := "_law_house") (p2 := "_law_kind") (p3 := "_law_name") (p4 := "_law_above") (p5 := "_law_share") ⟨⟨_, _, _, _, _, _, _, _, _, _, _, _, _, (rfl : (Mine.hd.heap_39 w.params).lookup a_law_done = _), by kernel_rfl, us5 fun _ _ _ _ _ => rfl⟩, by kernel_rfl⟩ ?_
  with_reducible refine WSs.cons ?_
  refine WS.try ?_
  with_reducible refine WSs.cons ?_
  with_reducible refine WS.ite ?_
  with_reducible refine WT.cmp1 rfl ?_
  with_reducible refine WE.localA (by kernel_rfl) (by kernel_rfl) (by walk_at "lk") ?_
  with_reducible refine WE.int ?_
  with_reducible refine WC.eqI ?_
  with_reducible refine WTr.bool ?_
  with_reducible refine if_pf (by decide) ?_
  with_reducible refine WSs.nil ?_
  with_reducible refine WSs.cons ?_
  with_reducible refine WS.ite ?_
  with_reducible refine WT.cmp1 rfl ?_
  with_reducible refine WE.localA (by kernel_rfl) (by kernel_rfl) (by walk_at "lk") ?_
  with_reducible refine WE.int ?_
  with_reducible refine WC.eqI ?_
  with_reducible refine WTr.bool ?_
  with_reducible refine if_pt (by decide) ?_
  with_reducible refine WSs.cons ?_
  with_reducible refine WS.ret ?_
  with_reducible refine WE.method (by with_unfolding_all (first | exact fun _ _ => rfl | exact fun _ _ _ => rfl)) rfl rfl rfl ?_
  with_reducible refine WE.localA (by kernel_rfl) (by kernel_rfl) (by walk_at "lk") ?_
  with_reducible refine WM.inst (by walk_at "hp") ms_House_hand (by kernel_rfl) ?_
  with_reducible refine And.intro (Callee.meth ms_House_hand) ?_
  with_reducible refine WEs.cons rfl ?_
  with_reducible refine WE.localA (by kernel_rfl) (by kernel_rfl) (by walk_at "lk") ?_
  with_reducible refine WEs.cons rfl ?_
  with_reducible refine WE.localA (by kernel_rfl) (by kernel_rfl) (by walk_at "lk") ?_
  with_reducible refine WEs.cons rfl ?_
  with_reducible refine WE.localA (by kernel_rfl) (by kernel_rfl) (by walk_at "lk") ?_
  with_reducible refine WEs.nil ?_
  refine WCall.of_fn (hs fun e σ1 e1 => ?_)
  refine ⟨rfl, WH.hitAsA 9 (hand_ShareError (by kernel_rfl)) R.sub (by kernel_rfl) fun he => ?_⟩
  with_reducible refine WSs.cons ?_
  with_reducible refine WS.ret ?_
  with_reducible refine WE.call rfl rfl ?_
  with_reducible refine WE.globalA (by kernel_rfl) g_law_refusal ?_
  with_reducible refine And.intro (Callee.fn fn_law_refusal) ?_
  with_reducible refine WEs.cons rfl ?_
  with_reducible refine WE.localA (by kernel_rfl) (by kernel_rfl) (by walk_at "lk") ?_
  with_reducible refine WEs.nil ?_
  refine WCall.of_fn (R.ref Hp.self fun σ2 e2 => ?_)
  skip
  exact hq σ2 fun a p q => e2 _ _ (Hp.new he (e1 _ _ q))
theorem done_ok1 {H dw da : Nat} {tm : List Team} {ab : List (Str × Str)} {u u' v : MV} (P : Hp → Prop) (h : HouseD σ H dw da tm ab) (hs : ∀ {Q' : MV → Hp → Prop} {ρ' : Lo} {sc' : Scope} {X' : EX}, (∀ σ', P σ' → Q' .none σ') → WFn (cx w mean mg mb) ⟨n + 5, true, sc'⟩ m_House_hand [.ref H, u, u', v] ρ' Q' X' σ) (hq : ∀ σ', P σ' → Q .none σ') : WFn (cx w mean mg mb) ⟨n + 6, true, sc⟩ a_law_done [.ref H, .int 1, u, u', v] ρ Q X σ := by
  have hH := h.hou
  refine WFn.fn5 (p1 := "_law_house") (p2 := "_law_kind") (p3 := "_law_name") (p4 := "_law_above") (p5 := "_law_share") ⟨⟨_, _, _, _, _, _, _, _, _, _, _, _, _, (rfl : (Mine.hd.heap_39 w.params).lookup a_law_done = _), by kernel_rfl, us5 fun _ _ _ _ _ => rfl⟩, by kernel_rfl⟩ ?_
  with_reducible refine WSs.cons ?_
  refine WS.try ?_
  with_reducible refine WSs.cons ?_
  with_reducible refine WS.ite ?_
  with_reducible refine WT.cmp1 rfl ?_
  with_reducible refine WE.localA (by kernel_rfl) (by kernel_rfl) (by walk_at "lk") ?_
  with_reducible refine WE.int ?_
  with_reducible refine WC.eqI ?_
  with_reducible refine WTr.bool ?_
  with_reducible refine if_pf (by decide) ?_
  with_reducible refine WSs.nil ?_
  with_reducible refine WSs.cons ?_
  with_reducible refine WS.ite ?_
  with_reducible refine WT.cmp1 rfl ?_
  with_reducible refine WE.localA (by kernel_rfl) (by kernel_rfl) (by walk_at "lk") ?_
  with_reducible refine WE.int ?_
  with_reducible refine WC.eqI ?_
  with_reducible refine WTr.bool ?_
  with_reducible refine if_pt (by decide) ?_
  with_reducible refine WSs.cons ?_
  with_reducible refine WS.ret ?_
  with_reducible refine WE.method (by with_unfolding_all (first | exact fun _ _ => rfl | exact fun _ _ _ => rfl)) rfl rfl rfl ?_
  with_reducible refine WE.localA (by kernel_rfl) (by kernel_rfl) (by walk_at "lk") ?_
  with_reducible refine WM.inst (by walk_at "hp") ms_House_hand (by kernel_rfl) ?_
  with_reducible refine And.intro (Callee.meth ms_House_hand) ?_
  with_reducible refine WEs.cons rfl ?_
  with_reducible refine WE.localA (by kernel_rfl) (by kernel_rfl) (by walk_at "lk") ?_
  with_reducible refine WEs.cons rfl ?_
  with_reducible refine WE.localA (by kernel_rfl) (by kernel_rfl) (by walk_at "lk") ?_
  with_reducible refine WEs.cons rfl ?_
  with_reducible refine WE.localA (by kernel_rfl) (by kernel_rfl) (by walk_at "lk") ?_
  with_reducible refine WEs.nil ?_
  refine WCall.of_fn (hs fun σ1 p1 => ?_)
  skip
  exact hq σ1 p1
theorem done_bad2 {H dw da C : Nat} {tm : List Team} {ab : List (Str × Str)} {u u' v : MV} {s : Str} (h : HouseD σ H dw da tm ab) (R : Ref9 w mean mg mb C s) (hs : ∀ {Q' : MV → Hp → Prop} {ρ' : Lo} {sc' : Scope} {X' : EX}, (∀ e σ', Extd σ σ' → X' false C e σ') → WFn (cx w mean mg mb) ⟨n + 5, true, sc'⟩ m_House_leave [.ref H, u] ρ' Q' X' σ) (hq : ∀ σ', Extd σ σ' → Q (.str s) σ') : WFn (cx w mean mg mb) ⟨n + 6, true, sc⟩ a_law_done [.ref H, .int 2, u, u', v] ρ Q X σ := by
  have hH := h.hou
  refine WFn.fn5 (p1 := "_law_house") (p2 := "_law_kind") (p3 := "_law_name") (p4 := "_law_above") (p5 := "_law_share") ⟨⟨_, _, _, _, _, _, _, _, _, _, _, _, _, (rfl : (Mine.hd.heap_39 w.params).lookup a_law_done = _), by kernel_rfl, us5 fun _ _ _ _ _ => rfl⟩, by kernel_rfl⟩ ?_
  with_reducible refine WSs.cons ?_
  refine WS.try ?_
  with_reducible refine WSs.cons ?_
  with_reducible refine WS.ite ?_
  with_reducible refine WT.cmp1 rfl ?_
  with_reducible refine WE.localA (by kernel_rfl) (by kernel_rfl) (by walk_at "lk") ?_
  with_reducible refine WE.int ?_
  with_reducible refine WC.eqI ?_
  with_reducible refine WTr.bool ?_
  with_reducible refine if_pf (by decide) ?_
  with_reducible refine WSs.nil ?_
  with_reducible refine WSs.cons ?_
  with_reducible refine WS.ite ?_
  with_reducible refine WT.cmp1 rfl ?_
  with_reducible refine WE.localA (by kernel_rfl) (by kernel_rfl) (by walk_at "lk") ?_
  with_reducible refine WE.int ?_
  with_reducible refine WC.eqI ?_
  with_reducible refine WTr.bool ?_
  with_reducible refine if_pf (by decide) ?_
  with_reducible refine WSs.nil ?_
  with_reducible refine WSs.cons ?_
  with_reducible refine WS.ite ?_
  with_reducible refine WT.cmp1 rfl ?_
  with_reducible refine WE.localA (by kernel_rfl) (by kernel_rfl) (by walk_at "lk") ?_
  with_reducible refine WE.int ?_
  with_reducible refine WC.eqI ?_
  with_reducible refine WTr.bool ?_
  with_reducible refine if_pt (by decide) ?_
  with_reducible refine WSs.cons ?_
  with_reducible refine WS.ret ?_
  with_reducible refine WE.method (by with_unfolding_all (first | exact fun _ _ => rfl | exact fun _ _ _ => rfl)) rfl rfl rfl ?_
  with_reducible refine WE.localA (by kernel_rfl) (by kernel_rfl) (by walk_at "lk") ?_
  with_reducible refine WM.inst (by walk_at "hp") ms_House_leave (by kernel_rfl) ?_
  with_reducible refine And.intro (Callee.meth ms_House_leave) ?_
  with_reducible refine WEs.cons rfl ?_
  with_reducible refine WE.localA (by kernel_rfl) (by kernel_rfl) (by walk_at "lk") ?_
  with_reducible refine WEs.nil ?_
  refine WCall.of_fn (hs fun e σ1 e1 => ?_)
  refine ⟨rfl, WH.hitAsA 9 (hand_ShareError (by kernel_rfl)) R.sub (by kernel_rfl) fun he => ?_⟩
  with_reducible refine WSs.cons ?_
  with_reducible refine WS.ret ?_
  with_reducible refine WE.call rfl rfl ?_
  with_reducible refine WE.globalA (by kernel_rfl) g_law_refusal ?_
  with_reducible refine And.intro (Callee.fn fn_law_refusal) ?_
  with_reducible refine WEs.cons rfl ?_
  with_reducible refine WE.localA (by kernel_rfl) (by kernel_rfl) (by walk_at "lk") ?_
  with_reducible refine WEs.nil ?_
  refine WCall.of_fn (R.ref Hp.self fun σ2 e2 => ?_)
  skip
  exact hq σ2 fun a p q => e2 _ _ (Hp.new he (e1 _ _ q))
theorem done_ok2 {H dw da : Nat} {tm : List Team} {ab : List (Str × Str)} {u u' v : MV} (P : Hp → Prop) (h : HouseD σ H dw da tm ab) (hs : ∀ {Q' : MV → Hp → Prop} {ρ' : Lo} {sc' : Scope} {X' : EX}, (∀ σ', P σ' → Q' .none σ') → WFn (cx w mean mg mb) ⟨n + 5, true, sc'⟩ m_House_leave [.ref H, u] ρ' Q' X' σ) (hq : ∀ σ', P σ' → Q .none σ') : WFn (cx w mean mg mb) ⟨n + 6, true, sc⟩ a_law_done [.ref H, .int 2, u, u', v] ρ Q X σ := by
  have hH := h.hou
  refine WFn.fn5 (p1 := "_law_house") (p2 := "_law_kind") (p3 := "_law_name") (p4 := "_law_above") (p5 := "_law_share") ⟨⟨_, _, _, _, _, _, _, _, _, _, _, _, _, (rfl : (Mine.hd.heap_39 w.params).lookup a_law_done = _), by kernel_rfl, us5 fun _ _ _ _ _ => rfl⟩, by kernel_rfl⟩ ?_
  with_reducible refine WSs.cons ?_
  refine WS.try ?_
  with_reducible refine WSs.cons ?_
  with_reducible refine WS.ite ?_
  with_reducible refine WT.cmp1 rfl ?_
  with_reducible refine WE.localA (by kernel_rfl) (by kernel_rfl) (by walk_at "lk") ?_
  with_reducible refine WE.int ?_
  with_reducible refine WC.eqI ?_
  with_reducible refine WTr.bool ?_
  with_reducible refine if_pf (by decide) ?_
  with_reducible refine WSs.nil ?_
  with_reducible refine WSs.cons ?_
  with_reducible refine WS.ite ?_
  with_reducible refine WT.cmp1 rfl ?_
  with_reducible refine WE.localA (by kernel_rfl) (by kernel_rfl) (by walk_at "lk") ?_
  with_reducible refine WE.int ?_
  with_reducible refine WC.eqI ?_
  with_reducible refine WTr.bool ?_
  with_reducible refine if_pf (by decide) ?_
  with_reducible refine WSs.nil ?_
  with_reducible refine WSs.cons ?_
  with_reducible refine WS.ite ?_
  with_reducible refine WT.cmp1 rfl ?_
  with_reducible refine WE.localA (by kernel_rfl) (by kernel_rfl) (by walk_at "lk") ?_
  with_reducible refine WE.int ?_
  with_reducible refine WC.eqI ?_
  with_reducible refine WTr.bool ?_
  with_reducible refine if_pt (by decide) ?_
  with_reducible refine WSs.cons ?_
  with_reducible refine WS.ret ?_
  with_reducible refine WE.method (by with_unfolding_all (first | exact fun _ _ => rfl | exact fun _ _ _ => rfl)) rfl rfl rfl ?_
  with_reducible refine WE.localA (by kernel_rfl) (by kernel_rfl) (by walk_at "lk") ?_
  with_reducible refine WM.inst (by walk_at "hp") ms_House_leave (by kernel_rfl) ?_
  with_reducible refine And.intro (Callee.meth ms_House_leave) ?_
  with_reducible refine WEs.cons rfl ?_
  with_reducible refine WE.localA (by kernel_rfl) (by kernel_rfl) (by walk_at "lk") ?_
  with_reducible refine WEs.nil ?_
  refine WCall.of_fn (hs fun σ1 p1 => ?_)
  skip
  exact hq σ1 p1
theorem done_bad3 {kind : Int} (hk0 : ¬ kind = 0) (hk1 : ¬ kind = 1) (hk2 : ¬ kind = 2) {H dw da C : Nat} {tm : List Team} {ab : List (Str × Str)} {u u' v : MV} {s : Str} (h : HouseD σ H dw da tm ab) (R : Ref9 w mean mg mb C s) (hs : ∀ {Q' : MV → Hp → Prop} {ρ' : Lo} {sc' : Scope} {X' : EX}, (∀ e σ', Extd σ σ' → X' false C e σ') → WFn (cx w mean mg mb) ⟨n + 5, true, sc'⟩ m_House_reshare [.ref H, u, v] ρ' Q' X' σ) (hq : ∀ σ', Extd σ σ' → Q (.str s) σ') : WFn (cx w mean mg mb) ⟨n + 6, true, sc⟩ a_law_done [.ref H, .int kind, u, u', v] ρ Q X σ := by
  have hH := h.hou
  refine WFn.fn5 (p1 := "_law_house") (p2 := "_law_kind") (p3 := "_law_name") (p4 := "_law_above") (p5 := "_law_share") ⟨⟨_, _, _, _, _, _, _, _, _, _, _, _, _, (rfl : (Mine.hd.heap_39 w.params).lookup a_law_done = _), by kernel_rfl, us5 fun _ _ _ _ _ => rfl⟩, by kernel_rfl⟩ ?_
  with_reducible refine WSs.cons ?_
  refine WS.try ?_
  with_reducible refine WSs.cons ?_
  with_reducible refine WS.ite ?_
  with_reducible refine WT.cmp1 rfl ?_
  with_reducible refine WE.localA (by kernel_rfl) (by kernel_rfl) (by walk_at "lk") ?_
  with_reducible refine WE.int ?_
  with_reducible refine WC.eqI ?_
  with_reducible refine WTr.bool ?_
  with_reducible refine if_ef (by with_reducible assumption) ?_
  with_reducible refine WSs.nil ?_
  with_reducible refine WSs.cons ?_
  with_reducible refine WS.ite ?_
  with_reducible refine WT.cmp1 rfl ?_
  with_reducible refine WE.localA (by kernel_rfl) (by kernel_rfl) (by walk_at "lk") ?_
  with_reducible refine WE.int ?_
  with_reducible refine WC.eqI ?_
  with_reducible refine WTr.bool ?_
  with_reducible refine if_ef (by with_reducible assumption) ?_
  with_reducible refine WSs.nil ?_
  with_reducible refine WSs.cons ?_
  with_reducible refine WS.ite ?_
  with_reducible refine WT.cmp1 rfl ?_
  with_reducible refine WE.localA (by kernel_rfl) (by kernel_rfl) (by walk_at "lk") ?_
  with_reducible refine WE.int ?_
  with_reducible refine WC.eqI ?_
  with_reducible refine WTr.bool ?_
  with_reducible refine if_ef (by with_reducible assumption) ?_
  with_reducible refine WSs.nil ?_
  with_reducible refine WSs.cons ?_
  with_reducible refine WS.ret ?_
  with_reducible refine WE.method (by with_unfolding_all (first | exact fun _ _ => rfl | exact fun _ _ _ => rfl)) rfl rfl rfl ?_
  with_reducible refine WE.localA (by kernel_rfl) (by kernel_rfl) (by walk_at "lk") ?_
  with_reducible refine WM.inst (by walk_at "hp") ms_House_reshare (by kernel_rfl) ?_
  with_reducible refine And.intro (Callee.meth ms_House_reshare) ?_
  with_reducible refine WEs.cons rfl ?_
  with_reducible refine WE.localA (by kernel_rfl) (by kernel_rfl) (by walk_at "lk") ?_
  with_reducible refine WEs.cons rfl ?_
  with_reducible refine WE.localA (by kernel_rfl) (by kernel_rfl) (by walk_at "lk") ?_
  with_reducible refine WEs.nil ?_
  refine WCall.of_fn (hs fun e σ1 e1 => ?_)
  refine ⟨rfl, WH.hitAsA 9 (hand_ShareError (by kernel_rfl)) R.sub (by kernel_rfl) fun he => ?_⟩
  with_reducible refine WSs.cons ?_
  with_reducible refine WS.ret ?_
  with_reducible refine WE.call rfl rfl ?_
  with_reducible refine WE.globalA (by kernel_rfl) g_law_refusal ?_
  with_reducible refine And.intro (Callee.fn fn_law_refusal) ?_
  with_reducible refine WEs.cons rfl ?_
  with_reducible refine WE.localA (by kernel_rfl) (by kernel_rfl) (by walk_at "lk") ?_
  with_reducible refine WEs.nil ?_
  refine WCall.of_fn (R.ref Hp.self fun σ2 e2 => ?_)
  skip
  exact hq σ2 fun a p q => e2 _ _ (Hp.new he (e1 _ _ q))
theorem done_ok3 {kind : Int} (hk0 : ¬ kind = 0) (hk1 : ¬ kind = 1) (hk2 : ¬ kind = 2) {H dw da : Nat} {tm : List Team} {ab : List (Str × Str)} {u u' v : MV} (P : Hp → Prop) (h : HouseD σ H dw da tm ab) (hs : ∀ {Q' : MV → Hp → Prop} {ρ' : Lo} {sc' : Scope} {X' : EX}, (∀ σ', P σ' → Q' .none σ') → WFn (cx w mean mg mb) ⟨n + 5, true, sc'⟩ m_House_reshare [.ref H, u, v] ρ' Q' X' σ) (hq : ∀ σ', P σ' → Q .none σ') : WFn (cx w mean mg mb) ⟨n + 6, true, sc⟩ a_law_done [.ref H, .int kind, u, u', v] ρ Q X σ := by
  have hH := h.hou
  refine WFn.fn5 (p1 := "_law_house") (p2 := "_law_kind") (p3 := "_law_name") (p4 := "_law_above") (p5 := "_law_share") ⟨⟨_, _, _, _, _, _, _, _, _, _, _, _, _, (rfl : (Mine.hd.heap_39 w.params).lookup a_law_done = _), by kernel_rfl, us5 fun _ _ _ _ _ => rfl⟩, by kernel_rfl⟩ ?_
  with_reducible refine WSs.cons ?_
  refine WS.try ?_
  with_reducible refine WSs.cons ?_
  with_reducible refine WS.ite ?_
  with_reducible refine WT.cmp1 rfl ?_
  with_reducible refine WE.localA (by kernel_rfl) (by kernel_rfl) (by walk_at "lk") ?_
  with_reducible refine WE.int ?_
  with_reducible refine WC.eqI ?_
  with_reducible refine WTr.bool ?_
  with_reducible refine if_ef (by with_reducible assumption) ?_
  with_reducible refine WSs.nil ?_
  with_reducible refine WSs.cons ?_
  with_reducible refine WS.ite ?_
  with_reducible refine WT.cmp1 rfl ?_
  with_reducible refine WE.localA (by kernel_rfl) (by kernel_rfl) (by walk_at "lk") ?_
  with_reducible refine WE.int ?_
  with_reducible refine WC.eqI ?_
  with_reducible refine WTr.bool ?_
  with_reducible refine if_ef (by with_reducible assumption) ?_
  with_reducible refine WSs.nil ?_
  with_reducible refine WSs.cons ?_
  with_reducible refine WS.ite ?_
  with_reducible refine WT.cmp1 rfl ?_
  with_reducible refine WE.localA (by kernel_rfl) (by kernel_rfl) (by walk_at "lk") ?_
  with_reducible refine WE.int ?_
  with_reducible refine WC.eqI ?_
  with_reducible refine WTr.bool ?_
  with_reducible refine if_ef (by with_reducible assumption) ?_
  with_reducible refine WSs.nil ?_
  with_reducible refine WSs.cons ?_
  with_reducible refine WS.ret ?_
  with_reducible refine WE.method (by with_unfolding_all (first | exact fun _ _ => rfl | exact fun _ _ _ => rfl)) rfl rfl rfl ?_
  with_reducible refine WE.localA (by kernel_rfl) (by kernel_rfl) (by walk_at "lk") ?_
  with_reducible refine WM.inst (by walk_at "hp") ms_House_reshare (by kernel_rfl) ?_
  with_reducible refine And.intro (Callee.meth ms_House_reshare) ?_
  with_reducible refine WEs.cons rfl ?_
  with_reducible refine WE.localA (by kernel_rfl) (by kernel_rfl) (by walk_at "lk") ?_
  with_reducible refine WEs.cons rfl ?_
  with_reducible refine WE.localA (by kernel_rfl) (by kernel_rfl) (by walk_at "lk") ?_
  with_reducible refine WEs.nil ?_
  refine WCall.of_fn (hs fun σ1 p1 => ?_)
  skip
  exact hq σ1 p1
structure Row9 where
  name : Str
  up : Str
  share : Int
  team : Bool
def rowV (r : Row9) : List MV := [.str r.name, .str r.up, .int r.share, .bool r.team]
abbrev RowAt (σ : Hp) (t : Nat) (r : Row9) : Prop := σ t = some (7, .list (rowV r))
structure Rows9 (σ : Hp) (B : Nat) (R : List Row9) (ts : List Nat) : Prop where
  lst : σ B = some (6, .list (ts.map .ref))
  row : All2 (RowAt σ) ts R
theorem All2.imp {α β : Type} {R R' : α → β → Prop} {l : List α} {m : List β} (h : All2 R l m) (k : ∀ a b, R a b → R' a b) : All2 R' l m := by
  induction h with
  | nil => exact .nil
  | cons r _ ih => exact .cons (k _ _ r) ih
theorem Rows9.keep {σ σ' : Hp} {B : Nat} {R : List Row9} {ts : List Nat} (h : Rows9 σ B R ts) (k6 : ∀ {a o}, σ a = some (6, o) → σ' a = some (6, o)) (k7 : ∀ {a o}, σ a = some (7, o) → σ' a = some (7, o)) : Rows9 σ' B R ts := ⟨k6 h.lst, h.row.imp fun _ _ e => k7 e⟩
theorem Rows9.ext {σ σ' : Hp} {B : Nat} {R : List Row9} {ts : List Nat} (h : Rows9 σ B R ts) (e : Extd σ σ') : Rows9 σ' B R ts := h.keep (fun q => e _ _ q) (fun q => e _ _ q)
/-- a name, be it a text or not -/
inductive Nam (σ : Hp) : MV → Prop
  | txt {x} : Nam σ (.str x)
  | odd {v} : Odd σ v → Nam σ v
theorem Nam.ext {σ σ' : Hp} {v : MV} (h : Nam σ v) (e : Extd σ σ') : Nam σ' v := by
  cases h with
  | txt => exact .txt
  | odd o => exact .odd (o.ext e)
def eqN : MV → Str → Bool
  | .str y, x => x == y
  | _, _ => false
theorem eqN_odd {σ : Hp} {v : MV} (h : Odd σ v) (x : Str) : eqN v x = false := by cases h <;> rfl
theorem eqN_c {i : Ix} {v : MV} {x : Str} (hn : 1 ≤ i.n) (hv : Nam σ v) (h : Q (.bool (eqN v x)) σ) : WC (cx w mean mg mb) i .Eq (.str x) v ρ Q X σ := by
  cases hv with
  | txt => exact WC.eqS h
  | odd o => rw [eqN_odd o] at h; exact WC.eq (k := 0) hn (by decide) o.rc1 h
theorem neE_c {i : Ix} {v : MV} {x : Str} (hn : 1 ≤ i.n) (hv : Nam σ v) (h : Q (.bool (!eqN v x)) σ) : WC (cx w mean mg mb) i .NotEq v (.str x) ρ Q X σ := by
  cases hv with
  | @txt y =>
    have e : (!eqN (.str y) x) = (y != x) := by
      show (!(x == y)) = !(y == x)
      rw [Bool.beq_comm]
    rw [e] at h
    exact WC.neS h
  | odd o => rw [eqN_odd o] at h; exact WC.ne (k := 0) hn (by decide) o.rn2 h
def dec (σ : Hp) : MV → Option Row9
  | .ref t => match σ t with
    | some (_, .list [.str a, .str b, .int c, .bool d]) => some ⟨a, b, c, d⟩
    | _ => Option.none
  | _ => Option.none
theorem dec_at {σ : Hp} {t : Nat} {r : Row9} (h : RowAt σ t r) : dec σ (.ref t) = some r := by
  have h' : σ t = some (7, .list [.str r.name, .str r.up, .int r.share, .bool r.team]) := h
  simp only [dec, h']
theorem filt9 {σ : Hp} {ts : List Nat} {R : List Row9} (h : All2 (RowAt σ) ts R) (q : Row9 → Bool) : ∃ us : List Nat, ((ts.map MV.ref).filter fun v => (dec σ v).any q) = us.map .ref ∧ All2 (RowAt σ) us (R.filter q) := by
  induction h with
  | nil => exact ⟨[], rfl, .nil⟩
  | @cons t r l m e _ ih =>
    obtain ⟨us, e1, e2⟩ := ih
    rw [List.map_cons, List.filter_cons, List.filter_cons, dec_at e]
    show ∃ us : List Nat, (if q r = true then _ else _) = _ ∧ _
    cases hq : q r with
    | true => exact ⟨t :: us, by rw [if_pos rfl, e1]; rfl, by rw [if_pos rfl]; exact .cons e e2⟩
    | false => exact ⟨us, by rw [if_neg (by decide), e1], by rw [if_neg (by decide)]; exact e2⟩
/-- a comprehension that picks rows -/
theorem pick9 {i : Ix} {ρ : Lo} {x : Str} {t elt : Expr} {B : Nat} {R : List Row9} {ts : List Nat} {σ : Hp} (hR : Rows9 σ B R ts) (q : Row9 → Bool) {Qc : List MV → Hp → Prop}
    (h : ∀ (u : Nat) (r : Row9), σ u = some (7, .list [.str r.name, .str r.up, .int r.share, .bool r.team]) → ∀ K : Bool → Hp → Prop, K (q r) σ → WT (cx w mean mg mb) i t (ρ.put x (.ref u)) K noX σ)
    (h' : ∀ (u : Nat), ∀ K : MV → Hp → Prop, K (.ref u) σ → WE (cx w mean mg mb) i elt (ρ.put x (.ref u)) K noX σ)
    (hq : ∀ us, All2 (RowAt σ) us (R.filter q) → Qc (us.map .ref) σ) : WComp (cx w mean mg mb) i x elt [t] (fun σ => ListAt σ B (ts.map .ref)) Qc ρ (ts.map .ref) [] σ := by
  obtain ⟨us, e1, e2⟩ := filt9 hR.row q
  refine WComp.filter (ListAt.own hR.lst) (p := fun v => (dec σ v).any q) (f := id) (fun v hv K hK => ?_) (fun v hv hp K hK => ?_) (by rw [e1, List.map_id]; exact hq us e2)
  · obtain ⟨u, hu, rfl⟩ := List.mem_map.mp hv
    obtain ⟨j, hj⟩ := List.mem_iff_getElem?.mp hu
    obtain ⟨r, _, e⟩ := hR.row.get hj
    refine h u r e K ?_
    rw [dec_at e] at hK
    exact hK
  · obtain ⟨u, hu, rfl⟩ := List.mem_map.mp hv
    exact h' u K hK
theorem anyF {R : List Row9} {q : Row9 → Bool} {us : List Nat} {σ : Hp} (h : All2 (RowAt σ) us (R.filter q)) : (us = [] ↔ R.any q = false) := by
  have hl := h.length
  constructor
  · intro e
    subst e
    have : R.filter q = [] := List.eq_nil_of_length_eq_zero hl.symm
    rw [List.any_eq_false]
    exact List.filter_eq_nil_iff.mp this
  · intro e
    rw [List.any_eq_false] at e
    rw [List.filter_eq_nil_iff.mpr e] at hl
    exact List.eq_nil_of_length_eq_zero hl
/-- a list of refs compared with the empty list -/
theorem eqNil {c : Cx} {σ : Hp} {a b t t' : Nat} {us : List Nat} (ha : σ a = some (t, .list (us.map .ref))) (hb : σ b = some (t', .list [])) : RcV c σ 2 (.ref a) (.ref b) us.isEmpty ∧ RnV c σ 2 (.ref a) (.ref b) (!us.isEmpty) := by
  cases us with
  | nil => exact ⟨RcV.listT (k := 1) (ListAt.own ha) (ListAt.own hb) .nil, RnV.listT (k := 1) (ListAt.own ha) (ListAt.own hb) .nil⟩
  | cons x xs =>
    have h1 : RcV c σ 1 (.ref a) (.ref b) false := RcV.listF (ListAt.own ha) (ListAt.own hb) (by simp)
    have h2 : RnV c σ 1 (.ref a) (.ref b) true := RnV.listF (ListAt.own ha) (ListAt.own hb) (by simp)
    exact ⟨fun f ρ fr z s A v u R iv iu hu => h1 f ρ fr z s A v u R iv iu (by omega), fun f ρ fr z s A v u R iv iu hu => h2 f ρ fr z s A v u R iv iu (by omega)⟩
theorem empt {R : List Row9} {q : Row9 → Bool} {us : List Nat} {σ : Hp} (h : All2 (RowAt σ) us (R.filter q)) : us.isEmpty = !R.any q := by
  cases hq : R.any q with
  | false => rw [(anyF h).mpr hq]; rfl
  | true =>
    cases us with
    | nil => have := (anyF h).mp rfl; rw [hq] at this; exact nomatch this
    | cons _ _ => rfl
/-- what may be handed in as a share -/
inductive ShV (σ : Hp) : MV → Prop
  | int {k} : ShV σ (.int k)
  | bool {b} : ShV σ (.bool b)
  | str {x} : ShV σ (.str x)
  | none : ShV σ .none
  | list {a t xs} : σ a = some (t, .list xs) → ShV σ (.ref a)
theorem ShV.ext {σ σ' : Hp} {v : MV} (h : ShV σ v) (e : Extd σ σ') : ShV σ' v := by
  cases h with
  | int => exact .int
  | bool => exact .bool
  | str => exact .str
  | none => exact .none
  | list q => exact .list (e _ _ q)
def okS : MV → Bool
  | .int k => decide (1 ≤ k) && decide (k ≤ 12)
  | _ => false
theorem is_share_c {v : MV} (hv : ShV σ v) (hq : Q (.bool (okS v)) σ) : WFn (cx w mean mg mb) ⟨n + 1, true, sc⟩ a_law_is_share [v] ρ Q X σ := by
  refine WFn.fn1 (p1 := "_law_share") ⟨⟨_, _, _, _, _, _, _, _, _, _, _, _, _, (rfl : (Mine.hd.heap_39 w.params).lookup a_law_is_share = _), by kernel_rfl, us1 fun _ => rfl⟩, by kernel_rfl⟩ ?_
  cases hv with
  | @int k =>
    by_cases h1 : 1 ≤ k
    · have e : okS (.int k) = decide (k ≤ 12) := by show (decide (1 ≤ k) && decide (k ≤ 12)) = _; rw [decide_eq_true h1, Bool.true_and]
      rw [e] at hq
      with_reducible refine WSs.cons ?_
      with_reducible refine WS.ret ?_
      with_reducible refine WE.and ?_
      with_reducible refine WE.call rfl rfl ?_
      with_reducible refine WE.globalA (by kernel_rfl) g_isinstance ?_
      with_reducible refine And.intro (Callee.con rfl) ?_
      with_reducible refine WEs.cons rfl ?_
      with_reducible refine WE.localA (by kernel_rfl) (by kernel_rfl) (by walk_at "lk") ?_
      with_reducible refine WEs.cons rfl ?_
      with_reducible refine WE.globalA (by kernel_rfl) g_int ?_
      with_reducible refine WEs.nil ?_
      with_reducible refine WCall.isinstance (by first | with_reducible assumption | (with_reducible exact KindOf.int) | (with_reducible exact KindOf.str) | (with_reducible exact KindOf.bool) | (with_reducible exact KindOf.none) | ((with_reducible apply KindOf.list); walk_at "hp") | ((with_reducible apply KindOf.tuple); walk_at "hp")) k_int_int ?_
      with_reducible refine WTr.bool ?_
      with_reducible refine if_tt ?_
      with_reducible refine WE.and ?_
      with_reducible refine WE.unary ?_
      with_reducible refine WE.call rfl rfl ?_
      with_reducible refine WE.globalA (by kernel_rfl) g_isinstance ?_
      with_reducible refine And.intro (Callee.con rfl) ?_
      with_reducible refine WEs.cons rfl ?_
      with_reducible refine WE.localA (by kernel_rfl) (by kernel_rfl) (by walk_at "lk") ?_
      with_reducible refine WEs.cons rfl ?_
      with_reducible refine WE.globalA (by kernel_rfl) g_bool ?_
      with_reducible refine WEs.nil ?_
      with_reducible refine WCall.isinstance (by first | with_reducible assumption | (with_reducible exact KindOf.int) | (with_reducible exact KindOf.str) | (with_reducible exact KindOf.bool) | (with_reducible exact KindOf.none) | ((with_reducible apply KindOf.list); walk_at "hp") | ((with_reducible apply KindOf.tuple); walk_at "hp")) k_int_bool ?_
      with_reducible refine WU.not ?_
      with_reducible refine WTr.bool ?_
      with_reducible refine WTr.bool ?_
      with_reducible refine if_nf ?_
      with_reducible refine WE.and1 ?_
      with_reducible refine WE.cmp2 rfl ?_
      with_reducible refine WE.int ?_
      with_reducible refine WE.localA (by kernel_rfl) (by kernel_rfl) (by walk_at "lk") ?_
      with_reducible refine WC.le ?_
      with_reducible refine WTr.bool ?_
      with_reducible refine if_dt (by with_reducible assumption) ?_
      with_reducible refine WE.int ?_
      with_reducible refine WC.le ?_
      exact hq
    · have e : okS (.int k) = false := by show (decide (1 ≤ k) && decide (k ≤ 12)) = _; rw [decide_eq_false h1, Bool.false_and]
      rw [e] at hq
      with_reducible refine WSs.cons ?_
      with_reducible refine WS.ret ?_
      with_reducible refine WE.and ?_
      with_reducible refine WE.call rfl rfl ?_
      with_reducible refine WE.globalA (by kernel_rfl) g_isinstance ?_
      with_reducible refine And.intro (Callee.con rfl) ?_
      with_reducible refine WEs.cons rfl ?_
      with_reducible refine WE.localA (by kernel_rfl) (by kernel_rfl) (by walk_at "lk") ?_
      with_reducible refine WEs.cons rfl ?_
      with_reducible refine WE.globalA (by kernel_rfl) g_int ?_
      with_reducible refine WEs.nil ?_
      with_reducible refine WCall.isinstance (by first | with_reducible assumption | (with_reducible exact KindOf.int) | (with_reducible exact KindOf.str) | (with_reducible exact KindOf.bool) | (with_reducible exact KindOf.none) | ((with_reducible apply KindOf.list); walk_at "hp") | ((with_reducible apply KindOf.tuple); walk_at "hp")) k_int_int ?_
      with_reducible refine WTr.bool ?_
      with_reducible refine if_tt ?_
      with_reducible refine WE.and ?_
      with_reducible refine WE.unary ?_
      with_reducible refine WE.call rfl rfl ?_
      with_reducible refine WE.globalA (by kernel_rfl) g_isinstance ?_
      with_reducible refine And.intro (Callee.con rfl) ?_
      with_reducible refine WEs.cons rfl ?_
      with_reducible refine WE.localA (by kernel_rfl) (by kernel_rfl) (by walk_at "lk") ?_
      with_reducible refine WEs.cons rfl ?_
      with_reducible refine WE.globalA (by kernel_rfl) g_bool ?_
      with_reducible refine WEs.nil ?_
      with_reducible refine WCall.isinstance (by first | with_reducible assumption | (with_reducible exact KindOf.int) | (with_reducible exact KindOf.str) | (with_reducible exact KindOf.bool) | (with_reducible exact KindOf.none) | ((with_reducible apply KindOf.list); walk_at "hp") | ((with_reducible apply KindOf.tuple); walk_at "hp")) k_int_bool ?_
      with_reducible refine WU.not ?_
      with_reducible refine WTr.bool ?_
      with_reducible refine WTr.bool ?_
      with_reducible refine if_nf ?_
      with_reducible refine WE.and1 ?_
      with_reducible refine WE.cmp2 rfl ?_
      with_reducible refine WE.int ?_
      with_reducible refine WE.localA (by kernel_rfl) (by kernel_rfl) (by walk_at "lk") ?_
      with_reducible refine WC.le ?_
      with_reducible refine WTr.bool ?_
      with_reducible refine if_df (by with_reducible assumption) ?_
      have e2 : decide (1 ≤ k) = false := decide_eq_false h1
      first | exact hq | (rw [e2]; exact hq)
  | bool =>
    with_reducible refine WSs.cons ?_
    with_reducible refine WS.ret ?_
    with_reducible refine WE.and ?_
    with_reducible refine WE.call rfl rfl ?_
    with_reducible refine WE.globalA (by kernel_rfl) g_isinstance ?_
    with_reducible refine And.intro (Callee.con rfl) ?_
    with_reducible refine WEs.cons rfl ?_
    with_reducible refine WE.localA (by kernel_rfl) (by kernel_rfl) (by walk_at "lk") ?_
    with_reducible refine WEs.cons rfl ?_
    with_reducible refine WE.globalA (by kernel_rfl) g_int ?_
    with_reducible refine WEs.nil ?_
    with_reducible refine WCall.isinstance (by first | with_reducible assumption | (with_reducible exact KindOf.int) | (with_reducible exact KindOf.str) | (with_reducible exact KindOf.bool) | (with_reducible exact KindOf.none) | ((with_reducible apply KindOf.list); walk_at "hp") | ((with_reducible apply KindOf.tuple); walk_at "hp")) k_bool_int ?_
    with_reducible refine WTr.bool ?_
    with_reducible refine if_tt ?_
    with_reducible refine WE.and ?_
    with_reducible refine WE.unary ?_
    with_reducible refine WE.call rfl rfl ?_
    with_reducible refine WE.globalA (by kernel_rfl) g_isinstance ?_
    with_reducible refine And.intro (Callee.con rfl) ?_
    with_reducible refine WEs.cons rfl ?_
    with_reducible refine WE.localA (by kernel_rfl) (by kernel_rfl) (by walk_at "lk") ?_
    with_reducible refine WEs.cons rfl ?_
    with_reducible refine WE.globalA (by kernel_rfl) g_bool ?_
    with_reducible refine WEs.nil ?_
    with_reducible refine WCall.isinstance (by first | with_reducible assumption | (with_reducible exact KindOf.int) | (with_reducible exact KindOf.str) | (with_reducible exact KindOf.bool) | (with_reducible exact KindOf.none) | ((with_reducible apply KindOf.list); walk_at "hp") | ((with_reducible apply KindOf.tuple); walk_at "hp")) k_bool_bool ?_
    with_reducible refine WU.not ?_
    with_reducible refine WTr.bool ?_
    with_reducible refine WTr.bool ?_
    with_reducible refine if_nt ?_
    exact hq
  | str =>
    with_reducible refine WSs.cons ?_
    with_reducible refine WS.ret ?_
    with_reducible refine WE.and ?_
    with_reducible refine WE.call rfl rfl ?_
    with_reducible refine WE.globalA (by kernel_rfl) g_isinstance ?_
    with_reducible refine And.intro (Callee.con rfl) ?_
    with_reducible refine WEs.cons rfl ?_
    with_reducible refine WE.localA (by kernel_rfl) (by kernel_rfl) (by walk_at "lk") ?_
    with_reducible refine WEs.cons rfl ?_
    with_reducible refine WE.globalA (by kernel_rfl) g_int ?_
    with_reducible refine WEs.nil ?_
    with_reducible refine WCall.isinstance (by first | with_reducible assumption | (with_reducible exact KindOf.int) | (with_reducible exact KindOf.str) | (with_reducible exact KindOf.bool) | (with_reducible exact KindOf.none) | ((with_reducible apply KindOf.list); walk_at "hp") | ((with_reducible apply KindOf.tuple); walk_at "hp")) k_str_int ?_
    with_reducible refine WTr.bool ?_
    with_reducible refine if_ff ?_
    exact hq
  | none =>
    with_reducible refine WSs.cons ?_
    with_reducible refine WS.ret ?_
    with_reducible refine WE.and ?_
    with_reducible refine WE.call rfl rfl ?_
    with_reducible refine WE.globalA (by kernel_rfl) g_isinstance ?_
    with_reducible refine And.intro (Callee.con rfl) ?_
    with_reducible refine WEs.cons rfl ?_
    with_reducible refine WE.localA (by kernel_rfl) (by kernel_rfl) (by walk_at "lk") ?_
    with_reducible refine WEs.cons rfl ?_
    with_reducible refine WE.globalA (by kernel_rfl) g_int ?_
    with_reducible refine WEs.nil ?_
    with_reducible refine WCall.isinstance (by first | with_reducible assumption | (with_reducible exact KindOf.int) | (with_reducible exact KindOf.str) | (with_reducible exact KindOf.bool) | (with_reducible exact KindOf.none) | ((with_reducible apply KindOf.list); walk_at "hp") | ((with_reducible apply KindOf.tuple); walk_at "hp")) k_NoneType_int ?_
    with_reducible refine WTr.bool ?_
    with_reducible refine if_ff ?_
    exact hq
  | list q =>
    with_reducible refine WSs.cons ?_
    with_reducible refine WS.ret ?_
    with_reducible refine WE.and ?_
    with_reducible refine WE.call rfl rfl ?_
    with_reducible refine WE.globalA (by kernel_rfl) g_isinstance ?_
    with_reducible refine And.intro (Callee.con rfl) ?_
    with_reducible refine WEs.cons rfl ?_
    with_reducible refine WE.localA (by kernel_rfl) (by kernel_rfl) (by walk_at "lk") ?_
    with_reducible refine WEs.cons rfl ?_
    with_reducible refine WE.globalA (by kernel_rfl) g_int ?_
    with_reducible refine WEs.nil ?_
    with_reducible refine WCall.isinstance (by first | with_reducible assumption | (with_reducible exact KindOf.int) | (with_reducible exact KindOf.str) | (with_reducible exact KindOf.bool) | (with_reducible exact KindOf.none) | ((with_reducible apply KindOf.list); walk_at "hp") | ((with_reducible apply KindOf.tuple); walk_at "hp")) k_list_int ?_
    with_reducible refine WTr.bool ?_
    with_reducible refine if_ff ?_
    exact hq
theorem NoShare.list {σ : Hp} {a t : Nat} {xs : List MV} (h : σ a = some (t, .list xs)) : NoShare w mean mg mb σ (.ref a) := fun _ _ _ _ _ hq => is_whole_not (.list h) (.inr ⟨k_list_bool, k_list_int⟩) hq
theorem noShare {v : MV} (hv : ShV σ v) (h : okS v = false) : NoShare w mean mg mb σ v := by
  cases hv with
  | @int k => exact NoShare.int fun q => by have : okS (.int k) = true := (by show (decide (1 ≤ k) && decide (k ≤ 12)) = true; rw [decide_eq_true q.1, decide_eq_true q.2]; rfl); rw [h] at this; exact nomatch this
  | bool => exact NoShare.bool
  | str => exact NoShare.str
  | none => exact NoShare.none
  | list q => exact NoShare.list q
def dueV (R : List Row9) (gs : List Str) (kind : Int) (v u sv : MV) : MV :=
  if kind < 2 then
    if (gs.any (eqN v)) = false then .str "bad name"
    else if (R.any fun r => eqN v r.name) = true then .str "twice"
    else if eqN u "" = false ∧ (R.any fun r => eqN u r.name && r.team) = false then .str "no team"
    else if okS sv = true then .none else .str "bad share"
  else if (R.any fun r => eqN v r.name) = false then .str "no name"
  else if kind = 2 then if (R.any fun r => eqN v r.up) = true then .str "not empty" else .none
  else if okS sv = true then .none else .str "bad share"
theorem notin5 {i : Ix} {a : Nat} {gs : List Str} {v : MV} (hn : 1 ≤ i.n) (hl : ListAt σ a (gs.map .str)) (hv : Nam σ v) (h : Q (.bool (!gs.any (eqN v))) σ) : WC (cx w mean mg mb) i .NotIn v (.ref a) ρ Q X σ := by
  cases hv with
  | txt => exact WC.notInL hl h
  | odd o =>
    have e : gs.any (eqN v) = false := by rw [List.any_eq_false]; intro x _; rw [eqN_odd o]; decide
    rw [e] at h
    exact WC.notInOdd hn hl o h
theorem due_c {B N : Nat} {R : List Row9} {ts : List Nat} {gs : List Str} {b1 b2 : Str} {o v u sv : MV} {kind : Int} (hR : Rows9 σ B R ts) (hz : R.length ≤ 1000) (hN : Names9 σ N gs b1 b2 o) (hv : Nam σ v) (hu : Nam σ u) (hs : ShV σ sv)
    (hq : ∀ σ', Extd σ σ' → Q (dueV R gs kind v u sv) σ') : WFn (cx w mean mg mb) ⟨n + 2, true, sc⟩ a_law_due [.ref B, .ref N, .int kind, v, u, sv] ρ Q X σ := by
  have tl : ts.length = R.length := hR.row.length
  have hB := hR.lst
  refine WFn.fn6 (p1 := "_law_rows") (p2 := "_law_names") (p3 := "_law_kind") (p4 := "_law_name") (p5 := "_law_above") (p6 := "_law_share") ⟨⟨_, _, _, _, _, _, _, _, _, _, _, _, _, (rfl : (Mine.hd.heap_39 w.params).lookup a_law_due = _), by kernel_rfl, us6 fun _ _ _ _ _ _ => rfl⟩, by kernel_rfl⟩ ?_
  with_reducible refine WSs.cons ?_
  with_reducible refine WS.assign (by with_unfolding_all (first | exact fun _ _ => rfl | exact fun _ _ _ => rfl)) ?_
  with_reducible refine WE.cmp1 rfl ?_
  refine WE.compA 9 rfl (by with_unfolding_all (first | exact fun _ _ => rfl | exact fun _ _ _ => rfl)) (by kernel_rfl) (by ((repeat (first | assumption | (refine Lo.put_ne (by kernel_rfl) ?_))); rfl)) ?_
  with_reducible refine WE.localA (by kernel_rfl) (by kernel_rfl) (by walk_at "lk") ?_
  refine ⟨_, _, Iterable.list (ListAt.own hB), by simp; omega, ?_⟩
  refine pick9 hR (fun r => eqN v r.name) (fun u' r e K hK => ?_) (fun u' K hK => ?_) fun us hus D hD => ?_
  · have z0 : [MV.str r.name, .str r.up, .int r.share, .bool r.team][Int.toNat 0]? = some (.str r.name) := rfl
    with_reducible refine WT.cmp1 rfl ?_
    with_reducible refine WE.sub ?_
    with_reducible refine WE.localA (by kernel_rfl) (by kernel_rfl) (by walk_at "lk") ?_
    with_reducible refine WE.int ?_
    with_reducible refine WSub.list (by with_unfolding_all (first | exact fun _ _ => rfl | exact fun _ _ _ => rfl)) (by first | with_reducible assumption | ((with_reducible apply ListAt.own); walk_at "hp") | ((with_reducible apply ListAt.k); walk_at "hp")) (by walk_at "ar") (by walk_at "ar") (by with_reducible assumption) ?_
    with_reducible refine WE.cellA (by kernel_rfl) (by kernel_rfl) (by walk_at "lk") ?_
    refine eqN_c (Nat.succ_le_succ (Nat.zero_le _)) hv ?_
    with_reducible refine WTr.bool ?_
    exact hK
  · skip
    with_reducible refine WE.localA (by kernel_rfl) (by kernel_rfl) (by walk_at "lk") ?_
    exact hK
  skip
  refine WE.list 9 ?_
  with_reducible refine WEs.nil ?_
  refine ⟨by simp, fun E hE => ?_⟩
  refine WC.ne (Nat.succ_le_succ (Nat.zero_le _)) (by decide) (eqNil (Hp.new hE.none Hp.self) Hp.self).2 ?_
  rw [empt hus, Bool.not_not]
  have e1 : Extd σ ((σ.put D 9 (.list (us.map .ref))).put E 9 (.list [])) := fun a p q => Hp.new hE.none (Hp.new hD q)
  generalize (σ.put D 9 (.list (us.map .ref))).put E 9 (.list []) = σ1 at e1 ⊢
  clear hD hE hus
  have hR1 := hR.ext e1
  have hB1 := hR1.lst
  have hN1 := e1 _ _ hN.lst
  have hs1 := hs.ext e1
  by_cases k2 : kind < 2
  · have et : ((gs.map MV.str ++ [.str "", .str b1, .str b2, o]).take 5) = gs.map .str := by
      have := hN.len
      rw [List.take_append_of_le_length (by rw [List.length_map]; omega), List.take_of_length_le (by rw [List.length_map]; omega)]
    with_reducible refine WSt.localA (by kernel_rfl) ?_
    with_reducible refine WSs.cons ?_
    with_reducible refine WS.ite ?_
    with_reducible refine WT.cmp1 rfl ?_
    with_reducible refine WE.localA (by kernel_rfl) (by kernel_rfl) (by walk_at "lk") ?_
    with_reducible refine WE.int ?_
    with_reducible refine WC.lt ?_
    with_reducible refine WTr.bool ?_
    with_reducible refine if_dt (by with_reducible assumption) ?_
    with_reducible refine WSs.cons ?_
    with_reducible refine WS.ite ?_
    with_reducible refine WT.cmp1 rfl ?_
    with_reducible refine WE.cellA (by kernel_rfl) (by kernel_rfl) (by walk_at "lk") ?_
    refine WE.sliceTo 9 ?_
    with_reducible refine WE.localA (by kernel_rfl) (by kernel_rfl) (by walk_at "lk") ?_
    with_reducible refine WE.int ?_
    refine ⟨N, _, 5, rfl, rfl, ListAt.own hN1, by have := hN.len; simp; omega, fun S hS => ?_⟩
    rw [et]
    refine notin5 (Nat.succ_le_succ (Nat.zero_le _)) (ListAt.own Hp.self) ((hv.ext e1).ext fun a p q => Hp.new hS.none q) ?_
    have e2 : Extd σ (σ1.put S 9 (.list (gs.map .str))) := fun a p q => Hp.new hS.none (e1 _ _ q)
    generalize σ1.put S 9 (.list (gs.map .str)) = σ2 at e2 ⊢
    clear hS hR1 hB1 hN1 hs1
    have hR2 := hR.ext e2
    have hB2 := hR2.lst
    have hs2 := hs.ext e2
    cases hA : gs.any (eqN v) with
    | false =>
      have ev : dueV R gs kind v u sv = .str "bad name" := by unfold dueV; rw [if_pos k2, if_pos hA]
      rw [ev] at hq
      with_reducible refine WTr.bool ?_
      with_reducible refine if_nf ?_
      with_reducible refine WSs.cons ?_
      with_reducible refine WS.ret ?_
      with_reducible refine WE.str ?_
      exact hq _ e2
    | true =>
      cases hT : R.any fun r => eqN v r.name with
      | true =>
        have ev : dueV R gs kind v u sv = .str "twice" := by unfold dueV; rw [if_pos k2, if_neg (by rw [hA]; decide), if_pos hT]
        rw [ev] at hq
        with_reducible refine WTr.bool ?_
        with_reducible refine if_nt ?_
        with_reducible refine WSs.nil ?_
        with_reducible refine WSs.cons ?_
        with_reducible refine WS.ite ?_
        with_reducible refine WT.plain (by with_unfolding_all (first | exact fun _ _ => rfl | exact fun _ _ _ => rfl)) ?_
        with_reducible refine WE.localA (by kernel_rfl) (by kernel_rfl) (by walk_at "lk") ?_
        with_reducible refine WTr.bool ?_
        with_reducible refine if_tt ?_
        with_reducible refine WSs.cons ?_
        with_reducible refine WS.ret ?_
        with_reducible refine WE.str ?_
        exact hq _ e2
      | false =>
        with_reducible refine WTr.bool ?_
        with_reducible refine if_nt ?_
        with_reducible refine WSs.nil ?_
        with_reducible refine WSs.cons ?_
        with_reducible refine WS.ite ?_
        with_reducible refine WT.plain (by with_unfolding_all (first | exact fun _ _ => rfl | exact fun _ _ _ => rfl)) ?_
        with_reducible refine WE.localA (by kernel_rfl) (by kernel_rfl) (by walk_at "lk") ?_
        with_reducible refine WTr.bool ?_
        with_reducible refine if_ff ?_
        with_reducible refine WSs.nil ?_
        with_reducible refine WSs.cons ?_
        with_reducible refine WS.ite ?_
        with_reducible refine WT.bool ?_
        with_reducible refine WA.and ?_
        with_reducible refine WT.cmp1 rfl ?_
        with_reducible refine WE.cellA (by kernel_rfl) (by kernel_rfl) (by walk_at "lk") ?_
        with_reducible refine WE.str ?_
        refine neE_c (Nat.succ_le_succ (Nat.zero_le _)) (hu.ext e2) ?_
        cases hM : eqN u "" with
        | true =>
          with_reducible refine WTr.bool ?_
          with_reducible refine if_nt ?_
          with_reducible refine if_ff ?_
          with_reducible refine WSs.nil ?_
          with_reducible refine WSs.cons ?_
          with_reducible refine WS.ret ?_
          with_reducible refine WE.ifexp ?_
          with_reducible refine WT.plain (by with_unfolding_all (first | exact fun _ _ => rfl | exact fun _ _ _ => rfl)) ?_
          with_reducible refine WE.call rfl rfl ?_
          with_reducible refine WE.globalA (by kernel_rfl) g_law_is_share ?_
          with_reducible refine And.intro (Callee.fn fn_law_is_share) ?_
          with_reducible refine WEs.cons rfl ?_
          with_reducible refine WE.localA (by kernel_rfl) (by kernel_rfl) (by walk_at "lk") ?_
          with_reducible refine WEs.nil ?_
          refine WCall.of_fn (is_share_c hs2 ?_)
          cases hS : okS sv with
          | true =>
            have ev : dueV R gs kind v u sv = .none := by unfold dueV; rw [if_pos k2, if_neg (by rw [hA]; decide), if_neg (by rw [hT]; decide), if_neg (fun q => by rw [hM] at q; exact nomatch q.1), if_pos hS]
            rw [ev] at hq
            with_reducible refine WTr.bool ?_
            with_reducible refine if_tt ?_
            with_reducible refine WE.none ?_
            exact hq _ e2
          | false =>
            have ev : dueV R gs kind v u sv = .str "bad share" := by unfold dueV; rw [if_pos k2, if_neg (by rw [hA]; decide), if_neg (by rw [hT]; decide), if_neg (fun q => by rw [hM] at q; exact nomatch q.1), if_neg (by rw [hS]; decide)]
            rw [ev] at hq
            with_reducible refine WTr.bool ?_
            with_reducible refine if_ff ?_
            with_reducible refine WE.str ?_
            exact hq _ e2
        | false =>
          with_reducible refine WTr.bool ?_
          with_reducible refine if_nf ?_
          with_reducible refine WA.and ?_
          with_reducible refine WT.cmp1 rfl ?_
          refine WE.compA 9 rfl (by with_unfolding_all (first | exact fun _ _ => rfl | exact fun _ _ _ => rfl)) (by kernel_rfl) (by ((repeat (first | assumption | (refine Lo.put_ne (by kernel_rfl) ?_))); rfl)) ?_
          with_reducible refine WE.localA (by kernel_rfl) (by kernel_rfl) (by walk_at "lk") ?_
          refine ⟨_, _, Iterable.list (ListAt.own hB2), by simp; omega, ?_⟩
          refine pick9 hR2 (fun r => eqN u r.name && r.team) (fun u' r e K hK => ?_) (fun u' K hK => ?_) fun us hus D hD => ?_
          · have z0 : [MV.str r.name, .str r.up, .int r.share, .bool r.team][Int.toNat 0]? = some (.str r.name) := rfl
            have z3 : [MV.str r.name, .str r.up, .int r.share, .bool r.team][Int.toNat 3]? = some (.bool r.team) := rfl
            with_reducible refine WT.bool ?_
            with_reducible refine WA.and ?_
            with_reducible refine WT.cmp1 rfl ?_
            with_reducible refine WE.sub ?_
            with_reducible refine WE.localA (by kernel_rfl) (by kernel_rfl) (by walk_at "lk") ?_
            with_reducible refine WE.int ?_
            with_reducible refine WSub.list (by with_unfolding_all (first | exact fun _ _ => rfl | exact fun _ _ _ => rfl)) (by first | with_reducible assumption | ((with_reducible apply ListAt.own); walk_at "hp") | ((with_reducible apply ListAt.k); walk_at "hp")) (by walk_at "ar") (by walk_at "ar") (by with_reducible assumption) ?_
            with_reducible refine WE.cellA (by kernel_rfl) (by kernel_rfl) (by walk_at "lk") ?_
            refine eqN_c (Nat.succ_le_succ (Nat.zero_le _)) (hu.ext e2) ?_
            cases hc : eqN u r.name with
            | true =>
              rw [hc, Bool.true_and] at hK
              cases hrt : r.team with
              | true =>
                rw [hrt] at hK e z3
                with_reducible refine WTr.bool ?_
                with_reducible refine if_tt ?_
                with_reducible refine WA.and ?_
                with_reducible refine WT.plain (by with_unfolding_all (first | exact fun _ _ => rfl | exact fun _ _ _ => rfl)) ?_
                with_reducible refine WE.sub ?_
                with_reducible refine WE.localA (by kernel_rfl) (by kernel_rfl) (by walk_at "lk") ?_
                with_reducible refine WE.int ?_
                with_reducible refine WSub.list (by with_unfolding_all (first | exact fun _ _ => rfl | exact fun _ _ _ => rfl)) (by first | with_reducible assumption | ((with_reducible apply ListAt.own); walk_at "hp") | ((with_reducible apply ListAt.k); walk_at "hp")) (by walk_at "ar") (by walk_at "ar") (by with_reducible assumption) ?_
                with_reducible refine WTr.bool ?_
                with_reducible refine if_tt ?_
                with_reducible refine WA.and_nil ?_
                exact hK
              | false =>
                rw [hrt] at hK e z3
                with_reducible refine WTr.bool ?_
                with_reducible refine if_tt ?_
                with_reducible refine WA.and ?_
                with_reducible refine WT.plain (by with_unfolding_all (first | exact fun _ _ => rfl | exact fun _ _ _ => rfl)) ?_
                with_reducible refine WE.sub ?_
                with_reducible refine WE.localA (by kernel_rfl) (by kernel_rfl) (by walk_at "lk") ?_
                with_reducible refine WE.int ?_
                with_reducible refine WSub.list (by with_unfolding_all (first | exact fun _ _ => rfl | exact fun _ _ _ => rfl)) (by first | with_reducible assumption | ((with_reducible apply ListAt.own); walk_at "hp") | ((with_reducible apply ListAt.k); walk_at "hp")) (by walk_at "ar") (by walk_at "ar") (by with_reducible assumption) ?_
                with_reducible refine WTr.bool ?_
                with_reducible refine if_ff ?_
                exact hK
            | false =>
              rw [hc, Bool.false_and] at hK
              with_reducible refine WTr.bool ?_
              with_reducible refine if_ff ?_
              exact hK
          · skip
            with_reducible refine WE.localA (by kernel_rfl) (by kernel_rfl) (by walk_at "lk") ?_
            exact hK
          skip
          refine WE.list 9 ?_
          with_reducible refine WEs.nil ?_
          refine ⟨by simp, fun E hE => ?_⟩
          refine WC.eq (Nat.succ_le_succ (Nat.zero_le _)) (by decide) (eqNil (Hp.new hE.none Hp.self) Hp.self).1 ?_
          rw [empt hus]
          have e3 : Extd σ ((σ2.put D 9 (.list (us.map .ref))).put E 9 (.list [])) := fun a p q => Hp.new hE.none (Hp.new hD (e2 _ _ q))
          generalize (σ2.put D 9 (.list (us.map .ref))).put E 9 (.list []) = σ3 at e3 ⊢
          have hs3 := hs.ext e3
          cases hG : R.any fun r => eqN u r.name && r.team with
          | false =>
            have ev : dueV R gs kind v u sv = .str "no team" := by unfold dueV; rw [if_pos k2, if_neg (by rw [hA]; decide), if_neg (by rw [hT]; decide), if_pos ⟨hM, hG⟩]
            rw [ev] at hq
            with_reducible refine WTr.bool ?_
            with_reducible refine if_nf ?_
            with_reducible refine WA.and_nil ?_
            with_reducible refine if_tt ?_
            with_reducible refine WSs.cons ?_
            with_reducible refine WS.ret ?_
            with_reducible refine WE.str ?_
            exact hq _ e3
          | true =>
            with_reducible refine WTr.bool ?_
            with_reducible refine if_nt ?_
            with_reducible refine if_ff ?_
            with_reducible refine WSs.nil ?_
            with_reducible refine WSs.cons ?_
            with_reducible refine WS.ret ?_
            with_reducible refine WE.ifexp ?_
            with_reducible refine WT.plain (by with_unfolding_all (first | exact fun _ _ => rfl | exact fun _ _ _ => rfl)) ?_
            with_reducible refine WE.call rfl rfl ?_
            with_reducible refine WE.globalA (by kernel_rfl) g_law_is_share ?_
            with_reducible refine And.intro (Callee.fn fn_law_is_share) ?_
            with_reducible refine WEs.cons rfl ?_
            with_reducible refine WE.localA (by kernel_rfl) (by kernel_rfl) (by walk_at "lk") ?_
            with_reducible refine WEs.nil ?_
            refine WCall.of_fn (is_share_c hs3 ?_)
            cases hS : okS sv with
            | true =>
              have ev : dueV R gs kind v u sv = .none := by unfold dueV; rw [if_pos k2, if_neg (by rw [hA]; decide), if_neg (by rw [hT]; decide), if_neg (fun q => by rw [hG] at q; exact nomatch q.2), if_pos hS]
              rw [ev] at hq
              with_reducible refine WTr.bool ?_
              with_reducible refine if_tt ?_
              with_reducible refine WE.none ?_
              exact hq _ e3
            | false =>
              have ev : dueV R gs kind v u sv = .str "bad share" := by unfold dueV; rw [if_pos k2, if_neg (by rw [hA]; decide), if_neg (by rw [hT]; decide), if_neg (fun q => by rw [hG] at q; exact nomatch q.2), if_neg (by rw [hS]; decide)]
              rw [ev] at hq
              with_reducible refine WTr.bool ?_
              with_reducible refine if_ff ?_
              with_reducible refine WE.str ?_
              exact hq _ e3
  · cases hT : R.any fun r => eqN v r.name with
    | false =>
      have ev : dueV R gs kind v u sv = .str "no name" := by unfold dueV; rw [if_neg k2, if_pos hT]
      rw [ev] at hq
      with_reducible refine WSt.localA (by kernel_rfl) ?_
      with_reducible refine WSs.cons ?_
      with_reducible refine WS.ite ?_
      with_reducible refine WT.cmp1 rfl ?_
      with_reducible refine WE.localA (by kernel_rfl) (by kernel_rfl) (by walk_at "lk") ?_
      with_reducible refine WE.int ?_
      with_reducible refine WC.lt ?_
      with_reducible refine WTr.bool ?_
      with_reducible refine if_df (by with_reducible assumption) ?_
      with_reducible refine WSs.nil ?_
      with_reducible refine WSs.cons ?_
      with_reducible refine WS.ite ?_
      with_reducible refine WT.not ?_
      with_reducible refine WT.plain (by with_unfolding_all (first | exact fun _ _ => rfl | exact fun _ _ _ => rfl)) ?_
      with_reducible refine WE.localA (by kernel_rfl) (by kernel_rfl) (by walk_at "lk") ?_
      with_reducible refine WTr.bool ?_
      with_reducible refine if_nf ?_
      with_reducible refine WSs.cons ?_
      with_reducible refine WS.ret ?_
      with_reducible refine WE.str ?_
      exact hq _ e1
    | true =>
      by_cases c2 : kind = 2
      · skip
        with_reducible refine WSt.localA (by kernel_rfl) ?_
        with_reducible refine WSs.cons ?_
        with_reducible refine WS.ite ?_
        with_reducible refine WT.cmp1 rfl ?_
        with_reducible refine WE.localA (by kernel_rfl) (by kernel_rfl) (by walk_at "lk") ?_
        with_reducible refine WE.int ?_
        with_reducible refine WC.lt ?_
        with_reducible refine WTr.bool ?_
        with_reducible refine if_df (by with_reducible assumption) ?_
        with_reducible refine WSs.nil ?_
        with_reducible refine WSs.cons ?_
        with_reducible refine WS.ite ?_
        with_reducible refine WT.not ?_
        with_reducible refine WT.plain (by with_unfolding_all (first | exact fun _ _ => rfl | exact fun _ _ _ => rfl)) ?_
        with_reducible refine WE.localA (by kernel_rfl) (by kernel_rfl) (by walk_at "lk") ?_
        with_reducible refine WTr.bool ?_
        with_reducible refine if_nt ?_
        with_reducible refine WSs.nil ?_
        with_reducible refine WSs.cons ?_
        with_reducible refine WS.ite ?_
        with_reducible refine WT.cmp1 rfl ?_
        with_reducible refine WE.localA (by kernel_rfl) (by kernel_rfl) (by walk_at "lk") ?_
        with_reducible refine WE.int ?_
        with_reducible refine WC.eqI ?_
        with_reducible refine WTr.bool ?_
        with_reducible refine if_et (by with_reducible assumption) ?_
        with_reducible refine WSs.cons ?_
        with_reducible refine WS.ret ?_
        with_reducible refine WE.ifexp ?_
        with_reducible refine WT.cmp1 rfl ?_
        refine WE.compA 9 rfl (by with_unfolding_all (first | exact fun _ _ => rfl | exact fun _ _ _ => rfl)) (by kernel_rfl) (by ((repeat (first | assumption | (refine Lo.put_ne (by kernel_rfl) ?_))); rfl)) ?_
        with_reducible refine WE.localA (by kernel_rfl) (by kernel_rfl) (by walk_at "lk") ?_
        refine ⟨_, _, Iterable.list (ListAt.own hB1), by simp; omega, ?_⟩
        refine pick9 hR1 (fun r => eqN v r.up) (fun u' r e K hK => ?_) (fun u' K hK => ?_) fun us hus D hD => ?_
        · have z1 : [MV.str r.name, .str r.up, .int r.share, .bool r.team][Int.toNat 1]? = some (.str r.up) := rfl
          with_reducible refine WT.cmp1 rfl ?_
          with_reducible refine WE.sub ?_
          with_reducible refine WE.localA (by kernel_rfl) (by kernel_rfl) (by walk_at "lk") ?_
          with_reducible refine WE.int ?_
          with_reducible refine WSub.list (by with_unfolding_all (first | exact fun _ _ => rfl | exact fun _ _ _ => rfl)) (by first | with_reducible assumption | ((with_reducible apply ListAt.own); walk_at "hp") | ((with_reducible apply ListAt.k); walk_at "hp")) (by walk_at "ar") (by walk_at "ar") (by with_reducible assumption) ?_
          with_reducible refine WE.cellA (by kernel_rfl) (by kernel_rfl) (by walk_at "lk") ?_
          refine eqN_c (Nat.succ_le_succ (Nat.zero_le _)) (hv.ext e1) ?_
          with_reducible refine WTr.bool ?_
          exact hK
        · skip
          with_reducible refine WE.localA (by kernel_rfl) (by kernel_rfl) (by walk_at "lk") ?_
          exact hK
        skip
        refine WE.list 9 ?_
        with_reducible refine WEs.nil ?_
        refine ⟨by simp, fun E hE => ?_⟩
        refine WC.eq (Nat.succ_le_succ (Nat.zero_le _)) (by decide) (eqNil (Hp.new hE.none Hp.self) Hp.self).1 ?_
        rw [empt hus]
        have e3 : Extd σ ((σ1.put D 9 (.list (us.map .ref))).put E 9 (.list [])) := fun a p q => Hp.new hE.none (Hp.new hD (e1 _ _ q))
        generalize (σ1.put D 9 (.list (us.map .ref))).put E 9 (.list []) = σ3 at e3 ⊢
        cases hF : R.any fun r => eqN v r.up with
        | true =>
          have ev : dueV R gs kind v u sv = .str "not empty" := by unfold dueV; rw [if_neg k2, if_neg (by rw [hT]; decide), if_pos c2, if_pos hF]
          rw [ev] at hq
          with_reducible refine WTr.bool ?_
          with_reducible refine if_nt ?_
          with_reducible refine WE.str ?_
          exact hq _ e3
        | false =>
          have ev : dueV R gs kind v u sv = .none := by unfold dueV; rw [if_neg k2, if_neg (by rw [hT]; decide), if_pos c2, if_neg (by rw [hF]; decide)]
          rw [ev] at hq
          with_reducible refine WTr.bool ?_
          with_reducible refine if_nf ?_
          with_reducible refine WE.none ?_
          exact hq _ e3
      · skip
        with_reducible refine WSt.localA (by kernel_rfl) ?_
        with_reducible refine WSs.cons ?_
        with_reducible refine WS.ite ?_
        with_reducible refine WT.cmp1 rfl ?_
        with_reducible refine WE.localA (by kernel_rfl) (by kernel_rfl) (by walk_at "lk") ?_
        with_reducible refine WE.int ?_
        with_reducible refine WC.lt ?_
        with_reducible refine WTr.bool ?_
        with_reducible refine if_df (by with_reducible assumption) ?_
        with_reducible refine WSs.nil ?_
        with_reducible refine WSs.cons ?_
        with_reducible refine WS.ite ?_
        with_reducible refine WT.not ?_
        with_reducible refine WT.plain (by with_unfolding_all (first | exact fun _ _ => rfl | exact fun _ _ _ => rfl)) ?_
        with_reducible refine WE.localA (by kernel_rfl) (by kernel_rfl) (by walk_at "lk") ?_
        with_reducible refine WTr.bool ?_
        with_reducible refine if_nt ?_
        with_reducible refine WSs.nil ?_
        with_reducible refine WSs.cons ?_
        with_reducible refine WS.ite ?_
        with_reducible refine WT.cmp1 rfl ?_
        with_reducible refine WE.localA (by kernel_rfl) (by kernel_rfl) (by walk_at "lk") ?_
        with_reducible refine WE.int ?_
        with_reducible refine WC.eqI ?_
        with_reducible refine WTr.bool ?_
        with_reducible refine if_ef (by with_reducible assumption) ?_
        with_reducible refine WSs.nil ?_
        with_reducible refine WSs.cons ?_
        with_reducible refine WS.ret ?_
        with_reducible refine WE.ifexp ?_
        with_reducible refine WT.plain (by with_unfolding_all (first | exact fun _ _ => rfl | exact fun _ _ _ => rfl)) ?_
        with_reducible refine WE.call rfl rfl ?_
        with_reducible refine WE.globalA (by kernel_rfl) g_law_is_share ?_
        with_reducible refine And.intro (Callee.fn fn_law_is_share) ?_
        with_reducible refine WEs.cons rfl ?_
        with_reducible refine WE.localA (by kernel_rfl) (by kernel_rfl) (by walk_at "lk") ?_
        with_reducible refine WEs.nil ?_
        refine WCall.of_fn (is_share_c hs1 ?_)
        cases hS : okS sv with
        | true =>
          have ev : dueV R gs kind v u sv = .none := by unfold dueV; rw [if_neg k2, if_neg (by rw [hT]; decide), if_neg c2, if_pos hS]
          rw [ev] at hq
          with_reducible refine WTr.bool ?_
          with_reducible refine if_tt ?_
          with_reducible refine WE.none ?_
          exact hq _ e1
        | false =>
          have ev : dueV R gs kind v u sv = .str "bad share" := by unfold dueV; rw [if_neg k2, if_neg (by rw [hT]; decide), if_neg c2, if_neg (by rw [hS]; decide)]
          rw [ev] at hq
          with_reducible refine WTr.bool ?_
          with_reducible refine if_ff ?_
          with_reducible refine WE.str ?_
          exact hq _ e1
theorem map9 {i : Ix} {ρ : Lo} {x : Str} {elt : Expr} {D g : Nat} {R : List Row9} {us : List Nat} {σ : Hp} (hl : σ D = some (g, .list (us.map .ref))) (hu : All2 (RowAt σ) us R) {Qc : List MV → Hp → Prop}
    (h : ∀ (u : Nat) (r : Row9), σ u = some (7, .list [.str r.name, .str r.up, .int r.share, .bool r.team]) → ∀ K : MV → Hp → Prop, K (.str r.name) σ → WE (cx w mean mg mb) i elt (ρ.put x (.ref u)) K noX σ) (hq : Qc ((R.map (·.name)).map .str) σ) : WComp (cx w mean mg mb) i x elt [] (fun σ => ListAt σ D (us.map .ref)) Qc ρ (us.map .ref) [] σ := by
  refine WComp.inv (fun j acc σ' => σ' = σ ∧ acc = ((R.take j).map (·.name)).map .str) _ 0 ⟨rfl, by simp⟩ ?_ ?_
  · rintro k v acc σ' hv ⟨rfl, rfl⟩
    rw [List.getElem?_map] at hv
    obtain ⟨t, ht, rfl⟩ := Option.map_eq_some_iff.mp hv
    obtain ⟨r, hr, e⟩ := hu.get ht
    refine ⟨ListAt.own hl, h t r e _ ⟨rfl, ?_⟩⟩
    rw [Nat.zero_add, List.take_add_one, hr]
    simp
  · rintro acc σ' ⟨rfl, rfl⟩
    refine ⟨ListAt.own hl, ?_⟩
    have : R.take (0 + (us.map MV.ref).length) = R := by rw [Nat.zero_add, List.length_map, hu.length, List.take_length]
    rw [this]; exact hq
theorem names_eq {c : Cx} {σ : Hp} {a b : Nat} {xs ys : List Str} (ha : ListAt σ a (xs.map .str)) (hb : ListAt σ b (ys.map .str)) (h : xs = ys) : RcV c σ 2 (.ref a) (.ref b) true ∧ RnV c σ 2 (.ref a) (.ref b) false := by
  subst h
  have e : EqVs c σ 1 (xs.map .str) (xs.map .str) := by
    clear ha hb
    induction xs with
    | nil => exact .nil
    | cons x xs ih => exact .cons (EqV.strT rfl) ih
  exact ⟨RcV.listT ha hb e, RnV.listT ha hb e⟩
def Still (l : List Shr) : Prop := ∀ x ∈ l, x.clock = 0 ∧ x.ready = false ∧ 1 ≤ x.share ∧ x.share ≤ 12
def rowOf (x : Shr) : Str × Int := (x.name, x.share)
/-- how the rows stand to the house -/
structure Rel9 (tm : List Team) (ab : List (Str × Str)) (R : List Row9) : Prop where
  ab : ab = R.map fun r => (r.name, r.up)
  tn : tm.map (·.name) = ("" : Str) :: (R.filter (·.team)).map (·.name)
  st : ∀ t ∈ tm, t.past = 0 ∧ Still t.l ∧ t.l.map rowOf = (R.filter fun r => r.up == t.name).map fun r => (r.name, r.share)
  ok : ∀ r ∈ R, okN r.name ∧ r.up ∈ tm.map (·.name)
theorem team_is {tm : List Team} {ab : List (Str × Str)} {R : List Row9} (h : Rel9 tm ab R) (x : Str) : x ∈ tm.map (·.name) ↔ x = "" ∨ (R.any fun r => eqN (.str x) r.name && r.team) = true := by
  rw [h.tn, List.mem_cons, List.any_eq_true]
  constructor
  · rintro (q | q)
    · exact .inl q
    · obtain ⟨r, hr, e⟩ := List.mem_map.mp q
      obtain ⟨h1, h2⟩ := List.mem_filter.mp hr
      exact .inr ⟨r, h1, by rw [h2, Bool.and_true]; exact beq_iff_eq.mpr e⟩
  · rintro (q | ⟨r, hr, e⟩)
    · exact .inl q
    · rw [Bool.and_eq_true] at e
      exact .inr (List.mem_map.mpr ⟨r, List.mem_filter.mpr ⟨hr, e.2⟩, beq_iff_eq.mp e.1⟩)
theorem all2_rows {l : List Shr} {R : List Row9} (h : l.map rowOf = R.map fun r => (r.name, r.share)) : ∀ {j : Nat} {r : Row9}, R[j]? = some r → ∃ x, l[j]? = some x ∧ x.name = r.name ∧ x.share = r.share := fun {j r} hr => by
  have e : (l.map rowOf)[j]? = some (r.name, r.share) := by rw [h, List.getElem?_map, hr]; rfl
  rw [List.getElem?_map] at e
  obtain ⟨x, hx, ex⟩ := Option.map_eq_some_iff.mp e
  exact ⟨x, hx, congrArg (·.1) ex, congrArg (·.2) ex⟩
theorem core_len {l l' : List Shr} (h : l'.map core = l.map core) : l'.length = l.length := by
  have := congrArg List.length h
  rwa [List.length_map, List.length_map] at this
theorem core_at {l l' : List Shr} (h : l'.map core = l.map core) {k : Nat} {x : Shr} (hk : l[k]? = some x) : ∃ x', l'[k]? = some x' ∧ core x' = core x := by
  have e : (l'.map core)[k]? = some (core x) := by rw [h, List.getElem?_map, hk]; rfl
  rw [List.getElem?_map] at e
  exact Option.map_eq_some_iff.mp e
theorem core_still {l l' : List Shr} (h : l'.map core = l.map core) (s : Still l) : Still l' := fun x hx => by
  obtain ⟨k, hk⟩ := List.mem_iff_getElem?.mp hx
  obtain ⟨y, hy, e⟩ := core_at h.symm hk
  obtain ⟨c0, r0, s0, s1⟩ := s y (List.mem_of_getElem? hy)
  have e2 : y.share = x.share := congrArg (·.2.1) e
  have e3 : y.clock = x.clock := congrArg (·.2.2.1) e
  have e4 : y.ready = x.ready := congrArg (·.2.2.2) e
  exact ⟨e3 ▸ c0, e4 ▸ r0, e2 ▸ s0, e2 ▸ s1⟩
theorem core_rowOf {l l' : List Shr} (h : l'.map core = l.map core) : l'.map rowOf = l.map rowOf := by
  have := congrArg (List.map fun c : Str × Int × Int × Bool => (c.1, c.2.1)) h
  rw [List.map_map, List.map_map] at this
  exact this
theorem WS.mono {c : Cx} {i : Ix} {st : Stmt} {ρ : Lo} {σ : Hp} {X : SX} {Q Q' : MF → Lo → Hp → Prop} (h : WS c i st ρ Q X σ) (k : ∀ m ρ' σ', Q m ρ' σ' → Q' m ρ' σ') : WS c i st ρ Q' X σ := S.mono h k
theorem WSs.split {c : Cx} {i : Ix} {st : Stmt} {rest : List Stmt} {ρ : Lo} {σ : Hp} {X : SX} {Q : MF → Lo → Hp → Prop} (P : Lo → Hp → Prop) (h : WS c i st ρ (fun m ρ₁ σ₁ => m = .next ∧ P ρ₁ σ₁) X σ) (k : ∀ ρ₁ σ₁, P ρ₁ σ₁ → WSs c i rest ρ₁ Q X σ₁) : WSs c i (st :: rest) ρ Q X σ :=
  WSs.cons (WS.mono h fun m ρ₁ σ₁ ⟨e, p⟩ => by subst e; exact k ρ₁ σ₁ p)
theorem WSs.splitO {c : Cx} {i : Ix} {st : Stmt} {rest : List Stmt} {ρ : Lo} {σ : Hp} {X : SX} {Q : MF → Lo → Hp → Prop} (P : Lo → Hp → Prop) (h : ∀ G : MF → Lo → Hp → Prop, (∀ ρ₁ σ₁, P ρ₁ σ₁ → G .next ρ₁ σ₁) → WS c i st ρ G X σ) (k : ∀ ρ₁ σ₁, P ρ₁ σ₁ → WSs c i rest ρ₁ Q X σ₁) : WSs c i (st :: rest) ρ Q X σ :=
  WSs.split P (h _ fun _ _ p => ⟨rfl, p⟩) k
theorem WFor.byIdxO {c : Cx} {i : Ix} {x : Str} {body : List Stmt} {still : Hp → Prop} {Q : MF → Lo → Hp → Prop} {items : List MV} {ρ : Lo} {σ : Hp} (Inv : Nat → Lo → Hp → Prop) (h0 : Inv 0 ρ σ)
    (hs : ∀ k v ρ σ, items[k]? = some v → Inv k ρ σ → still σ ∧ ∀ G : MF → Lo → Hp → Prop, (∀ ρ₂ σ₂, Inv (k + 1) ρ₂ σ₂ → G .next ρ₂ σ₂) → WSt c i x v ρ (fun ρ₁ σ₁ => WSs c i body ρ₁ G noSX σ₁) noSX σ)
    (he : ∀ ρ σ, Inv items.length ρ σ → still σ ∧ Q .next ρ σ) : WFor c i x body still Q items ρ σ :=
  WFor.byIdx Inv h0 (fun k v ρ σ hv hI => ⟨(hs k v ρ σ hv hI).1, (hs k v ρ σ hv hI).2 _ fun _ _ h => h⟩) he
theorem WEK.compA {c : Cx} {n : Nat} {hn : Bool} {sc scope : Scope} {x : Str} {ρ : Lo} {σ : Hp} {X : EX} {Q : MV → Hp → Prop} {px : Pos} {elt iter : Expr} {ifs : List Expr} {pos : Pos} (t : Nat) (hs : NotSet iter) (hok : compOk scope sc x = true) (h0 : ρ (".0" : Str) = Option.none)
    (h : WE c ⟨n, hn, sc⟩ iter ρ (fun v σ₁ => ∃ l xs, v = .ref l ∧ ListAt σ₁ l xs ∧ xs.length ≤ 1000000 ∧ WComp c ⟨n, hn, relab scope sc⟩ x elt ifs (fun σ => ListAt σ l xs) (fun vs σ₂ => ∀ D, σ₂ D = Option.none → Q (.ref D) (σ₂.put D t (.list vs))) ρ xs [] σ₁) X σ) :
    WEK c ⟨n, hn, sc⟩ (.ListComp elt [⟨.Name x px, iter, ifs, 0⟩] scope pos) ρ Q X σ := WEK.comp t hs hok h0 h
theorem odd_noteam {H : Nat} {v : MV} (hv : Odd σ v) : NoTeamV w mean mg mb H v σ := by
  cases hv with
  | int => exact NoTeamV.odd .int k_int_str
  | none => exact NoTeamV.odd .none k_NoneType_str
  | bool => exact NoTeamV.odd .bool k_bool_str
  | list q => exact NoTeamV.odd (.list q) k_list_str
theorem good_no {H dw da B : Nat} {tm : List Team} {ab : List (Str × Str)} {R : List Row9} {ts : List Nat} {v : MV} (h : HouseD σ H dw da tm ab) (hR : Rows9 σ B R ts) (hz : R.length ≤ 1000) (hv : Nam σ v) (ht : NoTeamV w mean mg mb H v σ) (h0 : eqN v "" = false) (hn : (R.any fun r => eqN v r.name && r.team) = false)
    (hq : ∀ σ', Extd σ σ' → Q (.bool true) σ') : WFn (cx w mean mg mb) ⟨n + 6, true, sc⟩ a_law_wheel_good [.ref H, .ref B, v] ρ Q X σ := by
  have hH := h.hou
  have tl : ts.length = R.length := hR.row.length
  have hB := hR.lst
  refine WFn.fn3 (p1 := "_law_house") (p2 := "_law_rows") (p3 := "_law_team") ⟨⟨_, _, _, _, _, _, _, _, _, _, _, _, _, (rfl : (Mine.hd.heap_39 w.params).lookup a_law_wheel_good = _), by kernel_rfl, us3 fun _ _ _ => rfl⟩, by kernel_rfl⟩ ?_
  with_reducible refine WSs.cons ?_
  refine WS.try ?_
  with_reducible refine WSs.cons ?_
  with_reducible refine WS.assign (by with_unfolding_all (first | exact fun _ _ => rfl | exact fun _ _ _ => rfl)) ?_
  with_reducible refine WE.method (by with_unfolding_all (first | exact fun _ _ => rfl | exact fun _ _ _ => rfl)) rfl rfl rfl ?_
  with_reducible refine WE.localA (by kernel_rfl) (by kernel_rfl) (by walk_at "lk") ?_
  with_reducible refine WM.inst (by walk_at "hp") ms_House_wheel_of (by kernel_rfl) ?_
  with_reducible refine And.intro (Callee.meth ms_House_wheel_of) ?_
  with_reducible refine WEs.cons rfl ?_
  with_reducible refine WE.cellA (by kernel_rfl) (by kernel_rfl) (by walk_at "lk") ?_
  with_reducible refine WEs.nil ?_
  refine WCall.of_fn (wheel_of_no h ht fun e => ?_)
  refine ⟨rfl, WH.hitK (hand_NoTeam (by kernel_rfl)) (by kernel_rfl) ?_⟩
  refine WEK.and ?_
  with_reducible refine WE.cmp1 rfl ?_
  with_reducible refine WE.cellA (by kernel_rfl) (by kernel_rfl) (by walk_at "lk") ?_
  with_reducible refine WE.str ?_
  refine neE_c (Nat.succ_le_succ (Nat.zero_le _)) hv ?_
  rw [h0]
  with_reducible refine WTr.bool ?_
  with_reducible refine if_nf ?_
  refine WEK.cmp1 rfl ?_
  refine WEK.compA 9 (by with_unfolding_all (first | exact fun _ _ => rfl | exact fun _ _ _ => rfl)) (by kernel_rfl) (by ((repeat (first | assumption | (refine Lo.put_ne (by kernel_rfl) ?_))); rfl)) ?_
  with_reducible refine WE.localA (by kernel_rfl) (by kernel_rfl) (by walk_at "lk") ?_
  refine ⟨_, _, rfl, ListAt.own hB, by simp; omega, ?_⟩
  refine pick9 hR (fun r => eqN v r.name && r.team) (fun u' r e K hK => ?_) (fun u' K hK => ?_) fun us hus D hD => ?_
  · have z0 : [MV.str r.name, .str r.up, .int r.share, .bool r.team][Int.toNat 0]? = some (.str r.name) := rfl
    have z3 : [MV.str r.name, .str r.up, .int r.share, .bool r.team][Int.toNat 3]? = some (.bool r.team) := rfl
    with_reducible refine WT.bool ?_
    with_reducible refine WA.and ?_
    with_reducible refine WT.cmp1 rfl ?_
    with_reducible refine WE.sub ?_
    with_reducible refine WE.localA (by kernel_rfl) (by kernel_rfl) (by walk_at "lk") ?_
    with_reducible refine WE.int ?_
    with_reducible refine WSub.list (by with_unfolding_all (first | exact fun _ _ => rfl | exact fun _ _ _ => rfl)) (by first | with_reducible assumption | ((with_reducible apply ListAt.own); walk_at "hp") | ((with_reducible apply ListAt.k); walk_at "hp")) (by walk_at "ar") (by walk_at "ar") (by with_reducible assumption) ?_
    with_reducible refine WE.cellA (by kernel_rfl) (by kernel_rfl) (by walk_at "lk") ?_
    refine eqN_c (Nat.succ_le_succ (Nat.zero_le _)) hv ?_
    cases hc : eqN v r.name with
    | true =>
      rw [hc, Bool.true_and] at hK
      cases hrt : r.team with
      | true =>
        rw [hrt] at hK e z3
        with_reducible refine WTr.bool ?_
        with_reducible refine if_tt ?_
        with_reducible refine WA.and ?_
        with_reducible refine WT.plain (by with_unfolding_all (first | exact fun _ _ => rfl | exact fun _ _ _ => rfl)) ?_
        with_reducible refine WE.sub ?_
        with_reducible refine WE.localA (by kernel_rfl) (by kernel_rfl) (by walk_at "lk") ?_
        with_reducible refine WE.int ?_
        with_reducible refine WSub.list (by with_unfolding_all (first | exact fun _ _ => rfl | exact fun _ _ _ => rfl)) (by first | with_reducible assumption | ((with_reducible apply ListAt.own); walk_at "hp") | ((with_reducible apply ListAt.k); walk_at "hp")) (by walk_at "ar") (by walk_at "ar") (by with_reducible assumption) ?_
        with_reducible refine WTr.bool ?_
        with_reducible refine if_tt ?_
        with_reducible refine WA.and_nil ?_
        exact hK
      | false =>
        rw [hrt] at hK e z3
        with_reducible refine WTr.bool ?_
        with_reducible refine if_tt ?_
        with_reducible refine WA.and ?_
        with_reducible refine WT.plain (by with_unfolding_all (first | exact fun _ _ => rfl | exact fun _ _ _ => rfl)) ?_
        with_reducible refine WE.sub ?_
        with_reducible refine WE.localA (by kernel_rfl) (by kernel_rfl) (by walk_at "lk") ?_
        with_reducible refine WE.int ?_
        with_reducible refine WSub.list (by with_unfolding_all (first | exact fun _ _ => rfl | exact fun _ _ _ => rfl)) (by first | with_reducible assumption | ((with_reducible apply ListAt.own); walk_at "hp") | ((with_reducible apply ListAt.k); walk_at "hp")) (by walk_at "ar") (by walk_at "ar") (by with_reducible assumption) ?_
        with_reducible refine WTr.bool ?_
        with_reducible refine if_ff ?_
        exact hK
    | false =>
      rw [hc, Bool.false_and] at hK
      with_reducible refine WTr.bool ?_
      with_reducible refine if_ff ?_
      exact hK
  · skip
    with_reducible refine WE.localA (by kernel_rfl) (by kernel_rfl) (by walk_at "lk") ?_
    exact hK
  refine WE.list 9 ?_
  with_reducible refine WEs.nil ?_
  refine ⟨by simp, fun E hE => ?_⟩
  refine WC.eq (Nat.succ_le_succ (Nat.zero_le _)) (by decide) (eqNil (Hp.new hE.none Hp.self) Hp.self).1 ?_
  rw [empt hus, hn]
  exact hq _ fun a p q => Hp.new hE.none (Hp.new hD q)
theorem Extd.oth {t : Nat} {σ σ' : Hp} (h : Extd σ σ') : Oth t σ σ' := ⟨fun a t' o e _ => h _ _ e⟩
theorem good_yes {H dw da B : Nat} {tm : List Team} {ab : List (Str × Str)} {R : List Row9} {ts : List Nat} {t : Team} (h : HouseD σ H dw da tm ab) (hR : Rows9 σ B R ts) (hz : R.length ≤ 1000) (rl : Rel9 tm ab R) (ht : t ∈ tm)
    (hq : ∀ σ', Oth 20 σ σ' → Q (.bool true) σ') : WFn (cx w mean mg mb) ⟨n + 6, true, sc⟩ a_law_wheel_good [.ref H, .ref B, .str t.name] ρ Q X σ := by
  have hH := h.hou
  have tl : ts.length = R.length := hR.row.length
  obtain ⟨hp0, hst, hrow⟩ := rl.st t ht
  have hll : t.l.length ≤ 1000 := by
    have := congrArg List.length hrow
    rw [List.length_map, List.length_map] at this
    rw [this]
    exact Nat.le_trans (List.length_filter_le _ _) hz
  have hin := (team_is rl t.name).mp (List.mem_map.mpr ⟨t, ht, rfl⟩)
  refine WFn.fn3 (p1 := "_law_house") (p2 := "_law_rows") (p3 := "_law_team") ⟨⟨_, _, _, _, _, _, _, _, _, _, _, _, _, (rfl : (Mine.hd.heap_39 w.params).lookup a_law_wheel_good = _), by kernel_rfl, us3 fun _ _ _ => rfl⟩, by kernel_rfl⟩ ?_
  with_reducible refine WSs.cons ?_
  refine WS.try ?_
  with_reducible refine WSs.cons ?_
  with_reducible refine WS.assign (by with_unfolding_all (first | exact fun _ _ => rfl | exact fun _ _ _ => rfl)) ?_
  with_reducible refine WE.method (by with_unfolding_all (first | exact fun _ _ => rfl | exact fun _ _ _ => rfl)) rfl rfl rfl ?_
  with_reducible refine WE.localA (by kernel_rfl) (by kernel_rfl) (by walk_at "lk") ?_
  with_reducible refine WM.inst (by walk_at "hp") ms_House_wheel_of (by kernel_rfl) ?_
  with_reducible refine And.intro (Callee.meth ms_House_wheel_of) ?_
  with_reducible refine WEs.cons rfl ?_
  with_reducible refine WE.cellA (by kernel_rfl) (by kernel_rfl) (by walk_at "lk") ?_
  with_reducible refine WEs.nil ?_
  refine WCall.of_fn (wheel_of_ok 20 h ht (by omega) fun W d l σ1 hw hc e1 => ?_)
  rw [hp0] at hw
  have o1 : Oth 20 σ σ1 := e1.oth
  have hR1 := hR.ext e1
  have hB1 := hR1.lst
  clear hH
  with_reducible refine WSt.localA (by kernel_rfl) ?_
  with_reducible refine WSs.nil ?_
  refine WSs.splitO (fun ρ1 σ2 => Extd σ1 σ2 ∧ ρ1 "_law_wheel" = some (.ref W) ∧ ρ1 "_law_rows" = some (.ref B) ∧ ρ1 "_law_team" = some (.str t.name) ∧ ρ1 (".0" : Str) = Option.none) ?_ ?_
  · intro KS hKS
    by_cases c0 : t.name = ""
    · have ec : (t.name != "") = false := by rw [c0]; rfl
      with_reducible refine WS.ite ?_
      with_reducible refine WT.bool ?_
      with_reducible refine WA.and ?_
      with_reducible refine WT.cmp1 rfl ?_
      with_reducible refine WE.cellA (by kernel_rfl) (by kernel_rfl) (by walk_at "lk") ?_
      with_reducible refine WE.str ?_
      with_reducible refine WC.neS ?_
      with_reducible refine WTr.bool ?_
      with_reducible refine if_pf (by with_reducible assumption) ?_
      with_reducible refine if_ff ?_
      with_reducible refine WSs.nil ?_
      exact hKS _ _ ⟨fun _ _ q => q, by walk_at "lk", by walk_at "lk", by walk_at "lk", by ((repeat (first | assumption | (refine Lo.put_ne (by kernel_rfl) ?_))); rfl)⟩
    · have ec : (t.name != "") = true := bne_iff_ne.mpr c0
      have ha := hin.resolve_left c0
      with_reducible refine WS.ite ?_
      with_reducible refine WT.bool ?_
      with_reducible refine WA.and ?_
      with_reducible refine WT.cmp1 rfl ?_
      with_reducible refine WE.cellA (by kernel_rfl) (by kernel_rfl) (by walk_at "lk") ?_
      with_reducible refine WE.str ?_
      with_reducible refine WC.neS ?_
      with_reducible refine WTr.bool ?_
      with_reducible refine if_pt (by with_reducible assumption) ?_
      with_reducible refine WA.and ?_
      with_reducible refine WT.cmp1 rfl ?_
      refine WE.compA 9 rfl (by with_unfolding_all (first | exact fun _ _ => rfl | exact fun _ _ _ => rfl)) (by kernel_rfl) (by ((repeat (first | assumption | (refine Lo.put_ne (by kernel_rfl) ?_))); rfl)) ?_
      with_reducible refine WE.localA (by kernel_rfl) (by kernel_rfl) (by walk_at "lk") ?_
      refine ⟨_, _, Iterable.list (ListAt.own hB1), by simp; omega, ?_⟩
      refine pick9 hR1 (fun r => eqN (.str t.name) r.name && r.team) (fun u' r e K hK => ?_) (fun u' K hK => ?_) fun us hus D hD => ?_
      · have z0 : [MV.str r.name, .str r.up, .int r.share, .bool r.team][Int.toNat 0]? = some (.str r.name) := rfl
        have z3 : [MV.str r.name, .str r.up, .int r.share, .bool r.team][Int.toNat 3]? = some (.bool r.team) := rfl
        with_reducible refine WT.bool ?_
        with_reducible refine WA.and ?_
        with_reducible refine WT.cmp1 rfl ?_
        with_reducible refine WE.sub ?_
        with_reducible refine WE.localA (by kernel_rfl) (by kernel_rfl) (by walk_at "lk") ?_
        with_reducible refine WE.int ?_
        with_reducible refine WSub.list (by with_unfolding_all (first | exact fun _ _ => rfl | exact fun _ _ _ => rfl)) (by first | with_reducible assumption | ((with_reducible apply ListAt.own); walk_at "hp") | ((with_reducible apply ListAt.k); walk_at "hp")) (by walk_at "ar") (by walk_at "ar") (by with_reducible assumption) ?_
        with_reducible refine WE.cellA (by kernel_rfl) (by kernel_rfl) (by walk_at "lk") ?_
        with_reducible refine WC.eqS ?_
        with_reducible refine WTr.bool ?_
        cases hc' : (r.name == t.name) with
        | true =>
          have hc'' : eqN (.str t.name) r.name = true := hc'
          rw [hc'', Bool.true_and] at hK
          cases hrt : r.team with
          | true =>
            rw [hrt] at hK e z3
            with_reducible refine if_tt ?_
            with_reducible refine WA.and ?_
            with_reducible refine WT.plain (by with_unfolding_all (first | exact fun _ _ => rfl | exact fun _ _ _ => rfl)) ?_
            with_reducible refine WE.sub ?_
            with_reducible refine WE.localA (by kernel_rfl) (by kernel_rfl) (by walk_at "lk") ?_
            with_reducible refine WE.int ?_
            with_reducible refine WSub.list (by with_unfolding_all (first | exact fun _ _ => rfl | exact fun _ _ _ => rfl)) (by first | with_reducible assumption | ((with_reducible apply ListAt.own); walk_at "hp") | ((with_reducible apply ListAt.k); walk_at "hp")) (by walk_at "ar") (by walk_at "ar") (by with_reducible assumption) ?_
            with_reducible refine WTr.bool ?_
            with_reducible refine if_tt ?_
            with_reducible refine WA.and_nil ?_
            exact hK
          | false =>
            rw [hrt] at hK e z3
            with_reducible refine if_tt ?_
            with_reducible refine WA.and ?_
            with_reducible refine WT.plain (by with_unfolding_all (first | exact fun _ _ => rfl | exact fun _ _ _ => rfl)) ?_
            with_reducible refine WE.sub ?_
            with_reducible refine WE.localA (by kernel_rfl) (by kernel_rfl) (by walk_at "lk") ?_
            with_reducible refine WE.int ?_
            with_reducible refine WSub.list (by with_unfolding_all (first | exact fun _ _ => rfl | exact fun _ _ _ => rfl)) (by first | with_reducible assumption | ((with_reducible apply ListAt.own); walk_at "hp") | ((with_reducible apply ListAt.k); walk_at "hp")) (by walk_at "ar") (by walk_at "ar") (by with_reducible assumption) ?_
            with_reducible refine WTr.bool ?_
            with_reducible refine if_ff ?_
            exact hK
        | false =>
          have hc'' : eqN (.str t.name) r.name = false := hc'
          rw [hc'', Bool.false_and] at hK
          with_reducible refine if_ff ?_
          exact hK
      · skip
        with_reducible refine WE.localA (by kernel_rfl) (by kernel_rfl) (by walk_at "lk") ?_
        exact hK
      skip
      refine WE.list 9 ?_
      with_reducible refine WEs.nil ?_
      refine ⟨by simp, fun E hE => ?_⟩
      refine WC.eq (Nat.succ_le_succ (Nat.zero_le _)) (by decide) (eqNil (Hp.new hE.none Hp.self) Hp.self).1 ?_
      rw [empt hus, ha]
      with_reducible refine WTr.bool ?_
      with_reducible refine if_nt ?_
      with_reducible refine if_ff ?_
      with_reducible refine WSs.nil ?_
      exact hKS _ _ ⟨fun a p q => Hp.new hE.none (Hp.new hD q), by walk_at "lk", by walk_at "lk", by walk_at "lk", by ((repeat (first | assumption | (refine Lo.put_ne (by kernel_rfl) ?_))); rfl)⟩
  rintro ρ1 σ2 ⟨e2, r1, r2, r3, rd⟩
  have hw2 := hw.keep (σ' := σ2) ⟨fun a o q => e2 _ _ q⟩
  have hR2 := hR1.ext e2
  have hB2 := hR2.lst
  have o2 : Oth 20 σ σ2 := o1.trans e2.oth
  clear hw hR1 hB1 o1 e1 e2
  with_reducible refine WSs.cons ?_
  refine WS.assignCompA 9 rfl (by with_unfolding_all (first | exact fun _ _ => rfl | exact fun _ _ _ => rfl)) (by kernel_rfl) (by ((repeat (first | assumption | (refine Lo.put_ne (by kernel_rfl) ?_))))) (by kernel_rfl) (by kernel_rfl) ?_
  with_reducible refine WE.localA (by kernel_rfl) (by kernel_rfl) (by walk_at "lk") ?_
  refine ⟨_, _, Iterable.list (ListAt.own hB2), by simp; omega, ?_⟩
  refine pick9 hR2 (fun r => r.up == t.name) (fun u' r e K hK => ?_) (fun u' K hK => ?_) fun us hus D hD => ?_
  · have z1 : [MV.str r.name, .str r.up, .int r.share, .bool r.team][Int.toNat 1]? = some (.str r.up) := rfl
    with_reducible refine WT.cmp1 rfl ?_
    with_reducible refine WE.sub ?_
    with_reducible refine WE.localA (by kernel_rfl) (by kernel_rfl) (by walk_at "lk") ?_
    with_reducible refine WE.int ?_
    with_reducible refine WSub.list (by with_unfolding_all (first | exact fun _ _ => rfl | exact fun _ _ _ => rfl)) (by first | with_reducible assumption | ((with_reducible apply ListAt.own); walk_at "hp") | ((with_reducible apply ListAt.k); walk_at "hp")) (by walk_at "ar") (by walk_at "ar") (by with_reducible assumption) ?_
    with_reducible refine WE.cellA (by kernel_rfl) (by kernel_rfl) (by walk_at "lk") ?_
    with_reducible refine WC.eqS ?_
    with_reducible refine WTr.bool ?_
    exact hK
  · skip
    with_reducible refine WE.localA (by kernel_rfl) (by kernel_rfl) (by walk_at "lk") ?_
    exact hK
  have hD3 : (σ2.put D 9 (.list (us.map .ref))) D = some (9, .list (us.map .ref)) := Hp.self
  have e3 : Extd σ2 (σ2.put D 9 (.list (us.map .ref))) := fun a p q => Hp.new hD q
  have hus3 := hus.imp fun a b q => e3 _ _ q
  have hw3 := hw2.keep (σ' := σ2.put D 9 (.list (us.map .ref))) ⟨fun a o q => e3 _ _ q⟩
  have o3 : Oth 20 σ (σ2.put D 9 (.list (us.map .ref))) := o2.trans e3.oth
  generalize σ2.put D 9 (.list (us.map .ref)) = σ3 at hD3 hus3 hw3 o3 ⊢
  clear hw2 hR2 hB2 o2 e3 hus hD
  have ul : us.length = (R.filter fun r => r.up == t.name).length := hus3.length
  have rf := List.length_filter_le (fun r : Row9 => r.up == t.name) R
  have ll : l.length = t.l.length := core_len hc
  have hW3 : σ3 W = some (20, .inst a_Wheel [("past", .int 0), ("sharers", .ref d)]) := hw3.whl
  with_reducible refine WSs.cons ?_
  with_reducible refine WS.ite ?_
  with_reducible refine WT.bool ?_
  with_reducible refine WA.or ?_
  with_reducible refine WT.cmp1 rfl ?_
  with_reducible refine WE.method (by with_unfolding_all (first | exact fun _ _ => rfl | exact fun _ _ _ => rfl)) rfl rfl rfl ?_
  with_reducible refine WE.localA (by kernel_rfl) (by kernel_rfl) (by walk_at "lk") ?_
  with_reducible refine WM.inst (by walk_at "hp") ms_Wheel_names (by kernel_rfl) ?_
  with_reducible refine And.intro (Callee.meth ms_Wheel_names) ?_
  with_reducible refine WEs.nil ?_
  refine WCall.of_fn (names_c 9 hw3 (by omega) fun b hb => ?_)
  have hD4 : (σ3.put b 9 (.list ((l.map (·.name)).map .str))) D = _ := Hp.new hb.none hD3
  have hb4 : (σ3.put b 9 (.list ((l.map (·.name)).map .str))) b = _ := Hp.self
  have e4 : Extd σ3 (σ3.put b 9 (.list ((l.map (·.name)).map .str))) := fun a p q => Hp.new hb.none q
  generalize σ3.put b 9 (.list ((l.map (·.name)).map .str)) = σ4 at hD4 hb4 e4 ⊢
  clear hb
  skip
  refine WE.compA 9 rfl (by with_unfolding_all (first | exact fun _ _ => rfl | exact fun _ _ _ => rfl)) (by kernel_rfl) (by ((repeat (first | assumption | (refine Lo.put_ne (by kernel_rfl) ?_))))) ?_
  with_reducible refine WE.localA (by kernel_rfl) (by kernel_rfl) (by walk_at "lk") ?_
  refine ⟨_, _, Iterable.list (ListAt.own hD4), by simp; omega, ?_⟩
  refine map9 hD4 (hus3.imp fun a b q => e4 _ _ q) (fun u' r e K hK => ?_) fun F hF => ?_
  · have z0 : [MV.str r.name, .str r.up, .int r.share, .bool r.team][Int.toNat 0]? = some (.str r.name) := rfl
    with_reducible refine WE.sub ?_
    with_reducible refine WE.localA (by kernel_rfl) (by kernel_rfl) (by walk_at "lk") ?_
    with_reducible refine WE.int ?_
    with_reducible refine WSub.list (by with_unfolding_all (first | exact fun _ _ => rfl | exact fun _ _ _ => rfl)) (by first | with_reducible assumption | ((with_reducible apply ListAt.own); walk_at "hp") | ((with_reducible apply ListAt.k); walk_at "hp")) (by walk_at "ar") (by walk_at "ar") (by with_reducible assumption) ?_
    exact hK
  have en : l.map (·.name) = (R.filter fun r => r.up == t.name).map (·.name) := by
    rw [core_name hc]
    have := congrArg (List.map (·.1)) hrow
    rw [List.map_map, List.map_map] at this
    exact this
  refine WC.ne (Nat.succ_le_succ (Nat.zero_le _)) (by decide) (names_eq (ListAt.own (Hp.new hF hb4)) (ListAt.own Hp.self) en).2 ?_
  have e5 : Extd σ3 (σ4.put F 9 (.list (((R.filter fun r => r.up == t.name).map (·.name)).map .str))) := fun a p q => Hp.new hF (e4 _ _ q)
  generalize σ4.put F 9 (.list (((R.filter fun r => r.up == t.name).map (·.name)).map .str)) = σ5 at e5 ⊢
  have hw5 := hw3.keep (σ' := σ5) ⟨fun a o q => e5 _ _ q⟩
  have hD5 := e5 _ _ hD3
  have hus5 := hus3.imp fun a b q => e5 _ _ q
  have o5 : Oth 20 σ σ5 := o3.trans e5.oth
  have hW5 := e5 _ _ hW3
  clear hw3 hD3 hus3 o3 e5 hW3 e4 hD4 hb4 hF
  with_reducible refine WTr.bool ?_
  with_reducible refine if_ff ?_
  with_reducible refine WA.or ?_
  with_reducible refine WT.cmp1 rfl ?_
  with_reducible refine WE.attr (by with_unfolding_all (first | exact fun _ _ => rfl | exact fun _ _ _ => rfl)) ?_
  with_reducible refine WE.localA (by kernel_rfl) (by kernel_rfl) (by walk_at "lk") ?_
  with_reducible refine WGet.inst (by walk_at "hp") (by kernel_rfl) (by repeat (first | (with_reducible exact lk_head) | (with_reducible refine lk_tail (by kernel_rfl) ?_))) (by with_unfolding_all rfl) ?_
  with_reducible refine WE.int ?_
  with_reducible refine WC.neI ?_
  with_reducible refine WTr.bool ?_
  with_reducible refine if_pf (by decide) ?_
  with_reducible refine WA.or_nil ?_
  with_reducible refine if_ff ?_
  with_reducible refine WSs.nil ?_
  with_reducible refine WSs.cons ?_
  with_reducible refine WS.for rfl (by with_unfolding_all (first | exact fun _ _ => rfl | exact fun _ _ _ => rfl)) ?_
  with_reducible refine WE.localA (by kernel_rfl) (by kernel_rfl) (by walk_at "lk") ?_
  refine ⟨_, _, Iterable.list (ListAt.own hD5), ?_⟩
  have stl := core_still hc hst
  refine WFor.byIdxO (fun _ ρ' σ' => σ' = σ5 ∧ ρ' "_law_wheel" = some (.ref W)) ?_ ?_ ?_
  · exact ⟨rfl, by walk_at "lk"⟩
  · rintro i v ρ' σ' hv ⟨rfl, q1⟩
    rw [List.getElem?_map] at hv
    obtain ⟨u', hu', rfl⟩ := Option.map_eq_some_iff.mp hv
    obtain ⟨r, hr, e⟩ := hus5.get hu'
    have e : σ' u' = some (7, .list [.str r.name, .str r.up, .int r.share, .bool r.team]) := e
    obtain ⟨x, hx, xn, xs⟩ := all2_rows ((core_rowOf hc).trans hrow) hr
    obtain ⟨x0, xr, _, _⟩ := stl x (List.mem_of_getElem? hx)
    have z0 : [MV.str r.name, .str r.up, .int r.share, .bool r.team][Int.toNat 0]? = some (.str x.name) := by rw [xn]; rfl
    have z2 : [MV.str r.name, .str r.up, .int r.share, .bool r.team][Int.toNat 2]? = some (.int x.share) := by rw [xs]; rfl
    refine ⟨ListAt.own hD5, ?_⟩
    intro KL hKL
    with_reducible refine WSt.localA (by kernel_rfl) ?_
    with_reducible refine WSs.cons ?_
    with_reducible refine WS.ite ?_
    with_reducible refine WT.bool ?_
    with_reducible refine WA.or ?_
    with_reducible refine WT.cmp1 rfl ?_
    with_reducible refine WE.method (by with_unfolding_all (first | exact fun _ _ => rfl | exact fun _ _ _ => rfl)) rfl rfl rfl ?_
    with_reducible refine WE.localA (by kernel_rfl) (by kernel_rfl) (by walk_at "lk") ?_
    with_reducible refine WM.inst (by walk_at "hp") ms_Wheel_share_of (by kernel_rfl) ?_
    with_reducible refine And.intro (Callee.meth ms_Wheel_share_of) ?_
    with_reducible refine WEs.cons rfl ?_
    with_reducible refine WE.sub ?_
    with_reducible refine WE.localA (by kernel_rfl) (by kernel_rfl) (by walk_at "lk") ?_
    with_reducible refine WE.int ?_
    with_reducible refine WSub.list (by with_unfolding_all (first | exact fun _ _ => rfl | exact fun _ _ _ => rfl)) (by first | with_reducible assumption | ((with_reducible apply ListAt.own); walk_at "hp") | ((with_reducible apply ListAt.k); walk_at "hp")) (by walk_at "ar") (by walk_at "ar") (by with_reducible assumption) ?_
    with_reducible refine WEs.nil ?_
    refine WCall.of_fn (share_c hw5 hx ?_)
    with_reducible refine WE.sub ?_
    with_reducible refine WE.localA (by kernel_rfl) (by kernel_rfl) (by walk_at "lk") ?_
    with_reducible refine WE.int ?_
    with_reducible refine WSub.list (by with_unfolding_all (first | exact fun _ _ => rfl | exact fun _ _ _ => rfl)) (by first | with_reducible assumption | ((with_reducible apply ListAt.own); walk_at "hp") | ((with_reducible apply ListAt.k); walk_at "hp")) (by walk_at "ar") (by walk_at "ar") (by with_reducible assumption) ?_
    with_reducible refine WC.neI ?_
    with_reducible refine WTr.bool ?_
    have b1 : (x.share != x.share) = false := bne_self_eq_false ..
    rw [b1]
    with_reducible refine if_ff ?_
    with_reducible refine WA.or ?_
    with_reducible refine WT.cmp1 rfl ?_
    with_reducible refine WE.method (by with_unfolding_all (first | exact fun _ _ => rfl | exact fun _ _ _ => rfl)) rfl rfl rfl ?_
    with_reducible refine WE.localA (by kernel_rfl) (by kernel_rfl) (by walk_at "lk") ?_
    with_reducible refine WM.inst (by walk_at "hp") ms_Wheel_clock_of (by kernel_rfl) ?_
    with_reducible refine And.intro (Callee.meth ms_Wheel_clock_of) ?_
    with_reducible refine WEs.cons rfl ?_
    with_reducible refine WE.sub ?_
    with_reducible refine WE.localA (by kernel_rfl) (by kernel_rfl) (by walk_at "lk") ?_
    with_reducible refine WE.int ?_
    with_reducible refine WSub.list (by with_unfolding_all (first | exact fun _ _ => rfl | exact fun _ _ _ => rfl)) (by first | with_reducible assumption | ((with_reducible apply ListAt.own); walk_at "hp") | ((with_reducible apply ListAt.k); walk_at "hp")) (by walk_at "ar") (by walk_at "ar") (by with_reducible assumption) ?_
    with_reducible refine WEs.nil ?_
    refine WCall.of_fn (clock_c hw5 hx ?_)
    rw [x0]
    with_reducible refine WE.int ?_
    with_reducible refine WC.neI ?_
    with_reducible refine WTr.bool ?_
    with_reducible refine if_pf (by decide) ?_
    with_reducible refine WA.or_nil ?_
    with_reducible refine if_ff ?_
    with_reducible refine WSs.nil ?_
    with_reducible refine WSs.cons ?_
    with_reducible refine WS.ite ?_
    with_reducible refine WT.cmp1 rfl ?_
    with_reducible refine WE.method (by with_unfolding_all (first | exact fun _ _ => rfl | exact fun _ _ _ => rfl)) rfl rfl rfl ?_
    with_reducible refine WE.localA (by kernel_rfl) (by kernel_rfl) (by walk_at "lk") ?_
    with_reducible refine WM.inst (by walk_at "hp") ms_Wheel_is_ready (by kernel_rfl) ?_
    with_reducible refine And.intro (Callee.meth ms_Wheel_is_ready) ?_
    with_reducible refine WEs.cons rfl ?_
    with_reducible refine WE.sub ?_
    with_reducible refine WE.localA (by kernel_rfl) (by kernel_rfl) (by walk_at "lk") ?_
    with_reducible refine WE.int ?_
    with_reducible refine WSub.list (by with_unfolding_all (first | exact fun _ _ => rfl | exact fun _ _ _ => rfl)) (by first | with_reducible assumption | ((with_reducible apply ListAt.own); walk_at "hp") | ((with_reducible apply ListAt.k); walk_at "hp")) (by walk_at "ar") (by walk_at "ar") (by with_reducible assumption) ?_
    with_reducible refine WEs.nil ?_
    refine WCall.of_fn (ready_c hw5 hx ?_)
    rw [xr]
    with_reducible refine WE.bool ?_
    with_reducible refine WC.isNotB ?_
    with_reducible refine WTr.bool ?_
    with_reducible refine if_pf (by decide) ?_
    with_reducible refine WSs.nil ?_
    with_reducible refine WSs.nil ?_
    exact hKL _ _ ⟨rfl, by walk_at "lk"⟩
  · rintro ρ' σ' ⟨rfl, q1⟩
    refine ⟨ListAt.own hD5, ?_⟩
    have no : ("other" : Str) ∉ l.map (·.name) := by
      rw [en]
      intro q
      obtain ⟨r, hr, e⟩ := List.mem_map.mp q
      exact (rl.ok r (List.mem_filter.mp hr).1).1.ot e
    with_reducible refine WSs.cons ?_
    with_reducible refine WS.expr (by with_unfolding_all (first | exact fun _ _ => rfl | exact fun _ _ _ => rfl)) ?_
    with_reducible refine WE.method (by with_unfolding_all (first | exact fun _ _ => rfl | exact fun _ _ _ => rfl)) rfl rfl rfl ?_
    with_reducible refine WE.localA (by kernel_rfl) (by kernel_rfl) (by walk_at "lk") ?_
    with_reducible refine WM.inst (by walk_at "hp") ms_Wheel_enter (by kernel_rfl) ?_
    with_reducible refine And.intro (Callee.meth ms_Wheel_enter) ?_
    with_reducible refine WEs.cons rfl ?_
    with_reducible refine WE.str ?_
    with_reducible refine WEs.cons rfl ?_
    with_reducible refine WE.int ?_
    with_reducible refine WEs.nil ?_
    refine WCall.of_fn (enter_c hw5 no (by decide) (by decide) (by omega) fun a σ6 hw6 o6 => ?_)
    have hW6 : σ6 W = some (20, .inst a_Wheel [("past", .int 0), ("sharers", .ref d)]) := hw6.whl
    have at6 : (l ++ [(⟨"other", a, 3, 0, false⟩ : Shr)])[l.length]? = some ⟨"other", a, 3, 0, false⟩ := by rw [List.getElem?_append_right (Nat.le_refl _), Nat.sub_self]; rfl
    with_reducible refine WSs.cons ?_
    with_reducible refine WS.expr (by with_unfolding_all (first | exact fun _ _ => rfl | exact fun _ _ _ => rfl)) ?_
    with_reducible refine WE.method (by with_unfolding_all (first | exact fun _ _ => rfl | exact fun _ _ _ => rfl)) rfl rfl rfl ?_
    with_reducible refine WE.localA (by kernel_rfl) (by kernel_rfl) (by walk_at "lk") ?_
    with_reducible refine WM.inst (by walk_at "hp") ms_Wheel_wake (by kernel_rfl) ?_
    with_reducible refine And.intro (Callee.meth ms_Wheel_wake) ?_
    with_reducible refine WEs.cons rfl ?_
    with_reducible refine WE.str ?_
    with_reducible refine WEs.nil ?_
    refine WCall.of_fn (wake_c hw6 at6 fun σ7 hw7 o7 => ?_)
    have hW7 : σ7 W = some (20, .inst a_Wheel [("past", .int 0), ("sharers", .ref d)]) := hw7.whl
    have lt6 : l.length < (l ++ [(⟨"other", a, 3, 0, false⟩ : Shr)]).length := by rw [List.length_append]; exact Nat.lt_succ_self _
    have at7 : ((l ++ [(⟨"other", a, 3, 0, false⟩ : Shr)]).set l.length (woken 0 ⟨"other", a, 3, 0, false⟩))[l.length]? = some (woken 0 ⟨"other", a, 3, 0, false⟩) := List.getElem?_set_self lt6
    with_reducible refine WSs.cons ?_
    with_reducible refine WS.ret ?_
    with_reducible refine WE.cmp1 rfl ?_
    with_reducible refine WE.method (by with_unfolding_all (first | exact fun _ _ => rfl | exact fun _ _ _ => rfl)) rfl rfl rfl ?_
    with_reducible refine WE.localA (by kernel_rfl) (by kernel_rfl) (by walk_at "lk") ?_
    with_reducible refine WM.inst (by walk_at "hp") ms_Wheel_turn (by kernel_rfl) ?_
    with_reducible refine And.intro (Callee.meth ms_Wheel_turn) ?_
    with_reducible refine WEs.nil ?_
    refine WCall.of_fn (turn_c hw7 (by rw [List.length_set, List.length_append]; simp only [List.length_cons, List.length_nil]; omega) at7 (pick_only at7 rfl fun j y hj hne => ?_) (by show (1 : Int) ≤ 3; decide) (by show (3 : Int) ≤ 12; decide) fun σ8 hw8 o8 => ?_)
    · rw [List.getElem?_set_ne (Ne.symm hne)] at hj
      rcases List.mem_append.mp (List.mem_of_getElem? hj) with q | q
      · exact (stl y q).2.1
      · rw [List.mem_singleton.mp q]
    · skip
      with_reducible refine WE.str ?_
      with_reducible refine WC.eqS ?_
      have eo : (("other" : Str) == "other") = true := by kernel_rfl
      show Q (.bool (("other" : Str) == "other")) σ8
      rw [eo]
      exact hq σ8 (((o5.trans o6).trans o7).trans o8)
theorem wheel_good_c {H dw da B : Nat} {tm : List Team} {ab : List (Str × Str)} {R : List Row9} {ts : List Nat} {v : MV} (h : HouseD σ H dw da tm ab) (hR : Rows9 σ B R ts) (hz : R.length ≤ 1000) (rl : Rel9 tm ab R) (hv : Nam σ v)
    (hq : ∀ σ', Oth 20 σ σ' → Q (.bool true) σ') : WFn (cx w mean mg mb) ⟨n + 6, true, sc⟩ a_law_wheel_good [.ref H, .ref B, v] ρ Q X σ := by
  have e0 : ("" : Str) ∈ tm.map (·.name) := by rw [rl.tn]; exact .head _
  cases hv with
  | @txt x =>
    by_cases hx : x ∈ tm.map (·.name)
    · obtain ⟨t, ht, rfl⟩ := List.mem_map.mp hx
      exact good_yes h hR hz rl ht hq
    · refine good_no h hR hz .txt (NoTeamV.str h hx) ?_ ?_ fun σ' e => hq σ' e.oth
      · show (("" : Str) == x) = false
        cases q : (("" : Str) == x) with
        | false => rfl
        | true => exact absurd (beq_iff_eq.mp q ▸ e0) hx
      · cases q : (R.any fun r => eqN (.str x) r.name && r.team) with
        | false => rfl
        | true => exact absurd ((team_is rl x).mpr (.inr q)) hx
  | odd o =>
    refine good_no h hR hz (.odd o) (odd_noteam o) (eqN_odd o _) ?_ fun σ' e => hq σ' e.oth
    rw [List.any_eq_false]
    intro r _
    rw [eqN_odd o, Bool.false_and]
    decide
theorem Rel9.nd {tm : List Team} {ab : List (Str × Str)} {R : List Row9} (h : Rel9 tm ab R) (an : (ab.map (·.1)).Nodup) : (R.map (·.name)).Nodup := by
  rw [h.ab, List.map_map] at an; exact an
theorem nd_row {R : List Row9} (nd : (R.map (·.name)).Nodup) {r r' : Row9} (h : r ∈ R) (h' : r' ∈ R) (e : r.name = r'.name) : r = r' := by
  obtain ⟨i, hi⟩ := List.mem_iff_getElem?.mp h
  obtain ⟨j, hj⟩ := List.mem_iff_getElem?.mp h'
  obtain rfl := nodup_at nd hi hj e
  rw [hi] at hj; exact Option.some.inj hj
/-- where a row's sharer stands -/
theorem Rel9.place {tm : List Team} {ab : List (Str × Str)} {R : List Row9} (h : Rel9 tm ab R) {r : Row9} (hr : r ∈ R) : ∃ (k : Nat) (t : Team) (j : Nat) (x : Shr), tm[k]? = some t ∧ t.name = r.up ∧ t.l[j]? = some x ∧ x.name = r.name ∧ (x.name, t.name) ∈ ab ∧ x.clock = 0 ∧ x.ready = false ∧ 1 ≤ x.share ∧ x.share ≤ 12 := by
  obtain ⟨t, ht, e⟩ := List.mem_map.mp (h.ok r hr).2
  obtain ⟨k, hk⟩ := List.mem_iff_getElem?.mp ht
  obtain ⟨_, hs, hrow⟩ := h.st t ht
  have hm : (r.name, r.share) ∈ t.l.map rowOf := by
    rw [hrow]
    exact List.mem_map.mpr ⟨r, List.mem_filter.mpr ⟨hr, beq_iff_eq.mpr e.symm⟩, rfl⟩
  obtain ⟨x, hx, ex⟩ := List.mem_map.mp hm
  obtain ⟨j, hj⟩ := List.mem_iff_getElem?.mp hx
  have en : x.name = r.name := congrArg (·.1) ex
  exact ⟨k, t, j, x, hk, e, hj, en, by rw [h.ab, en, e]; exact List.mem_map.mpr ⟨r, hr, rfl⟩, hs x hx⟩
theorem Rel9.out {tm : List Team} {ab : List (Str × Str)} {R : List Row9} (h : Rel9 tm ab R) {t : Team} (ht : t ∈ tm) {nm : Str} (hn : nm ∉ R.map (·.name)) : nm ∉ t.l.map (·.name) := fun q => by
  obtain ⟨x, hx, e⟩ := List.mem_map.mp q
  have hm : rowOf x ∈ (R.filter fun r => r.up == t.name).map fun r => (r.name, r.share) := by
    rw [← (h.st t ht).2.2]; exact List.mem_map.mpr ⟨x, hx, rfl⟩
  obtain ⟨r, hr, er⟩ := List.mem_map.mp hm
  exact hn (List.mem_map.mpr ⟨r, (List.mem_filter.mp hr).1, by rw [← e]; exact congrArg (·.1) er⟩)
theorem Rel9.tnot {tm : List Team} {ab : List (Str × Str)} {R : List Row9} (h : Rel9 tm ab R) {nm : Str} (hn : nm ∉ R.map (·.name)) (h0 : nm ≠ "") : nm ∉ tm.map (·.name) := fun q => by
  rw [h.tn] at q
  rcases List.mem_cons.mp q with q | q
  · exact h0 q
  · obtain ⟨r, hr, e⟩ := List.mem_map.mp q
    exact hn (List.mem_map.mpr ⟨r, (List.mem_filter.mp hr).1, e⟩)
theorem Still.put {l : List Shr} (h : Still l) {y : Shr} (hy : y.clock = 0 ∧ y.ready = false ∧ 1 ≤ y.share ∧ y.share ≤ 12) : Still (l ++ [y]) := fun x hx => by
  rcases List.mem_append.mp hx with q | q
  · exact h x q
  · rw [List.mem_singleton.mp q]; exact hy
theorem come_st {tm : List Team} {ab : List (Str × Str)} {R : List Row9} (h : Rel9 tm ab R) (tn : (tm.map (·.name)).Nodup) {k a : Nat} {t : Team} {nm : Str} {share : Int} {tf : Bool} (hk : tm[k]? = some t) (h0 : 1 ≤ share) (h1 : share ≤ 12) :
    ∀ u ∈ tm.set k { t with l := t.l ++ [⟨nm, a, share, 0, false⟩] }, u.past = 0 ∧ Still u.l ∧ u.l.map rowOf = ((R ++ [(⟨nm, t.name, share, tf⟩ : Row9)]).filter fun r => r.up == u.name).map fun r => (r.name, r.share) := fun u hu => by
  rcases mem_set_or hu with rfl | ⟨i, hi, hiu⟩
  · obtain ⟨p0, s0, r0⟩ := h.st t (List.mem_of_getElem? hk)
    refine ⟨p0, s0.put ⟨rfl, rfl, h0, h1⟩, ?_⟩
    rw [List.map_append, r0, List.filter_append, List.map_append]
    congr 1
    rw [List.filter_cons, if_pos (beq_self_eq_true t.name)]
    rfl
  · obtain ⟨p0, s0, r0⟩ := h.st u (List.mem_of_getElem? hiu)
    refine ⟨p0, s0, ?_⟩
    have ne : ¬ ((t.name == u.name) = true) := fun q => hi (nodup_at tn hiu hk (beq_iff_eq.mp q).symm)
    rw [r0, List.filter_append, List.filter_cons, if_neg ne, List.filter_nil, List.append_nil]
theorem Rel9.come {tm : List Team} {ab : List (Str × Str)} {R : List Row9} (h : Rel9 tm ab R) (tn : (tm.map (·.name)).Nodup) {k a : Nat} {t : Team} {nm : Str} {share : Int} (hk : tm[k]? = some t) (ok : okN nm) (h0 : 1 ≤ share) (h1 : share ≤ 12) :
    Rel9 (tm.set k { t with l := t.l ++ [⟨nm, a, share, 0, false⟩] }) (ab ++ [(nm, t.name)]) (R ++ [⟨nm, t.name, share, false⟩]) := by
  have en : (tm.set k { t with l := t.l ++ [⟨nm, a, share, 0, false⟩] }).map (·.name) = tm.map (·.name) := by (refine map_set_same (·.name) hk ?_; rfl)
  refine ⟨by rw [h.ab, List.map_append]; rfl, ?_, come_st h tn hk h0 h1, fun r hr => ?_⟩
  · rw [en, h.tn, List.filter_append]
    simp
  · rw [en]
    rcases List.mem_append.mp hr with q | q
    · exact h.ok r q
    · rw [List.mem_singleton.mp q]
      exact ⟨ok, List.mem_map.mpr ⟨t, List.mem_of_getElem? hk, rfl⟩⟩
theorem Rel9.comeT {tm : List Team} {ab : List (Str × Str)} {R : List Row9} (h : Rel9 tm ab R) (tn : (tm.map (·.name)).Nodup) {k a W d g : Nat} {t : Team} {nm : Str} {share : Int} (hk : tm[k]? = some t) (ok : okN nm) (h0 : 1 ≤ share) (h1 : share ≤ 12) (hnt : nm ∉ tm.map (·.name)) :
    Rel9 (tm.set k { t with l := t.l ++ [⟨nm, a, share, 0, false⟩] } ++ [⟨nm, W, d, g, 0, []⟩]) (ab ++ [(nm, t.name)]) (R ++ [⟨nm, t.name, share, true⟩]) := by
  have en : (tm.set k { t with l := t.l ++ [⟨nm, a, share, 0, false⟩] }).map (·.name) = tm.map (·.name) := by (refine map_set_same (·.name) hk ?_; rfl)
  have htm : t.name ∈ tm.map (·.name) := List.mem_map.mpr ⟨t, List.mem_of_getElem? hk, rfl⟩
  refine ⟨by rw [h.ab, List.map_append]; rfl, ?_, fun u hu => ?_, fun r hr => ?_⟩
  · rw [List.map_append, en, h.tn, List.filter_append]
    simp
  · rcases List.mem_append.mp hu with q | q
    · exact come_st h tn hk h0 h1 u q
    · rw [List.mem_singleton.mp q]
      refine ⟨rfl, (fun x hx => nomatch hx), ?_⟩
      have : ((R ++ [(⟨nm, t.name, share, true⟩ : Row9)]).filter fun r => r.up == nm) = [] := by
        rw [List.filter_eq_nil_iff]
        intro r hr e
        have e := beq_iff_eq.mp e
        rcases List.mem_append.mp hr with q | q
        · exact hnt (e ▸ (h.ok r q).2)
        · rw [List.mem_singleton.mp q] at e
          exact hnt (e ▸ htm)
      show [] = ((R ++ [(⟨nm, t.name, share, true⟩ : Row9)]).filter fun r => r.up == nm).map fun r => (r.name, r.share)
      rw [this]; rfl
  · rw [List.map_append, en]
    rcases List.mem_append.mp hr with q | q
    · exact ⟨(h.ok r q).1, List.mem_append.mpr (.inl (h.ok r q).2)⟩
    · rw [List.mem_singleton.mp q]
      exact ⟨ok, List.mem_append.mpr (.inl htm)⟩
theorem Still.erase {l : List Shr} (h : Still l) (j : Nat) : Still (l.eraseIdx j) := fun x hx => h x (List.mem_of_mem_eraseIdx hx)
theorem erase_filter {α : Type} {f : α → Str} {l : List α} (nd : (l.map f).Nodup) {j : Nat} {x : α} (hj : l[j]? = some x) : l.eraseIdx j = l.filter fun y => f y != f x := by
  induction l generalizing j with
  | nil => exact nomatch hj
  | cons y l ih =>
    rw [List.map_cons, List.nodup_cons] at nd
    cases j with
    | zero =>
      cases hj
      rw [List.eraseIdx_zero, List.tail_cons, List.filter_cons, if_neg (by simp), List.filter_eq_self.mpr]
      intro z hz
      rw [bne_iff_ne]
      exact fun q => nd.1 (q ▸ List.mem_map.mpr ⟨z, hz, rfl⟩)
    | succ j =>
      rw [List.getElem?_cons_succ] at hj
      have ne : f y ≠ f x := fun q => nd.1 (q ▸ List.mem_map.mpr ⟨x, List.mem_of_getElem? hj, rfl⟩)
      rw [List.eraseIdx_cons_succ, List.filter_cons, if_pos (bne_iff_ne.mpr ne), ih nd.2 hj]
theorem Rel9.gone {tm tm' : List Team} {ab : List (Str × Str)} {R : List Row9} (h : Rel9 tm ab R) (an : (ab.map (·.1)).Nodup) (sub : ∀ u ∈ tm', u ∈ tm) (tnn : (tm'.map (·.name)).Nodup) {k j : Nat} {t : Team} {x : Shr} {r : Row9} (hk : tm'[k]? = some t) (hj : t.l[j]? = some x) (nn : (t.l.map (·.name)).Nodup) (hr : r ∈ R) (hx : x.name = r.name) (hu : t.name = r.up)
    (tn' : tm'.map (·.name) = ("" : Str) :: ((R.filter fun q => q.name != r.name).filter (·.team)).map (·.name)) (hup : ∀ q ∈ R, q.name ≠ r.name → q.up ∈ tm'.map (·.name)) :
    Rel9 (tm'.set k { t with l := t.l.eraseIdx j }) (ab.filter fun p => decide (p.1 ≠ x.name)) (R.filter fun q => q.name != r.name) := by
  have nd := h.nd an
  have en : (tm'.set k { t with l := t.l.eraseIdx j }).map (·.name) = tm'.map (·.name) := by (refine map_set_same (·.name) hk ?_; rfl)
  refine ⟨?_, by rw [en, tn'], fun u hu' => ?_, fun q hq => ?_⟩
  · rw [h.ab, List.filter_map, hx]
    congr 1
    refine List.filter_congr fun q _ => ?_
    show decide (q.name ≠ r.name) = (q.name != r.name)
    by_cases c : q.name = r.name
    · rw [decide_eq_false (fun d => d c), c]; simp
    · rw [decide_eq_true c]; exact (bne_iff_ne.mpr c).symm
  · rcases mem_set_or hu' with rfl | ⟨i, hi, hiu⟩
    · obtain ⟨p0, s0, r0⟩ := h.st t (sub t (List.mem_of_getElem? hk))
      refine ⟨p0, s0.erase j, ?_⟩
      show (t.l.eraseIdx j).map rowOf = _
      rw [erase_filter nn hj, hx]
      have e1 : (t.l.filter fun y => y.name != r.name).map rowOf = (t.l.map rowOf).filter fun p => p.1 != r.name := by
        rw [List.filter_map]; rfl
      rw [e1, r0, List.filter_map, List.filter_filter, List.filter_filter]
      congr 1
      refine List.filter_congr fun q _ => ?_
      show ((q.name != r.name) && (q.up == t.name)) = ((q.up == t.name) && (q.name != r.name))
      exact Bool.and_comm _ _
    · obtain ⟨p0, s0, r0⟩ := h.st u (sub u (List.mem_of_getElem? hiu))
      refine ⟨p0, s0, ?_⟩
      rw [r0, List.filter_filter]
      congr 1
      refine List.filter_congr fun q hq => ?_
      cases c : (q.up == u.name) with
      | false => rfl
      | true =>
        show true = (true && (q.name != r.name))
        rw [Bool.true_and]
        refine (bne_iff_ne.mpr fun e => hi (nodup_at tnn hiu hk ?_)).symm
        rw [← beq_iff_eq.mp c, hu, nd_row nd hq hr e]
  · obtain ⟨h1, h2⟩ := List.mem_filter.mp hq
    rw [en]
    exact ⟨(h.ok q h1).1, hup q h1 (bne_iff_ne.mp h2)⟩
def setShare (nm : Str) (share : Int) (r : Row9) : Row9 := if r.name == nm then { r with share := share } else r
theorem setShare_name (nm : Str) (share : Int) (r : Row9) : (setShare nm share r).name = r.name ∧ (setShare nm share r).up = r.up ∧ (setShare nm share r).team = r.team := by
  unfold setShare; split <;> exact ⟨rfl, rfl, rfl⟩
theorem Rel9.resh {tm : List Team} {ab : List (Str × Str)} {R : List Row9} (h : Rel9 tm ab R) (an : (ab.map (·.1)).Nodup) (tn : (tm.map (·.name)).Nodup) {k j : Nat} {t : Team} {x : Shr} {r : Row9} {share : Int} (hk : tm[k]? = some t) (hj : t.l[j]? = some x) (nn : (t.l.map (·.name)).Nodup) (hr : r ∈ R) (hx : x.name = r.name) (hu : t.name = r.up) (h0 : 1 ≤ share) (h1 : share ≤ 12) :
    Rel9 (tm.set k { t with l := t.l.set j (shared t.past share x) }) ab (R.map (setShare r.name share)) := by
  have nd := h.nd an
  have en : (tm.set k { t with l := t.l.set j (shared t.past share x) }).map (·.name) = tm.map (·.name) := by (refine map_set_same (·.name) hk ?_; rfl)
  obtain ⟨p0, s0, r0⟩ := h.st t (List.mem_of_getElem? hk)
  obtain ⟨c0, d0, g0, g1⟩ := s0 x (List.mem_of_getElem? hj)
  have es : shared t.past share x = { x with share := share } := by
    unfold shared
    rw [p0, c0, if_neg (by decide)]
  have ef : ∀ u : Str, (R.map (setShare r.name share)).filter (fun q => q.up == u) = (R.filter fun q => q.up == u).map (setShare r.name share) := fun u => by
    rw [List.filter_map]
    congr 1
    refine List.filter_congr fun q _ => ?_
    show ((setShare r.name share q).up == u) = _
    rw [(setShare_name _ _ q).2.1]
  refine ⟨?_, ?_, fun u hu' => ?_, fun q hq => ?_⟩
  · rw [h.ab, List.map_map]
    refine List.map_congr_left fun q _ => ?_
    show _ = ((setShare r.name share q).name, (setShare r.name share q).up)
    rw [(setShare_name _ _ q).1, (setShare_name _ _ q).2.1]
  · rw [en, h.tn, List.filter_map, List.map_map]
    congr 1
    have e1 : (R.filter fun q => (setShare r.name share q).team) = R.filter (·.team) := List.filter_congr fun q _ => (setShare_name _ _ q).2.2
    show _ = List.map ((·.name) ∘ setShare r.name share) (R.filter fun q => (setShare r.name share q).team)
    rw [e1]
    exact List.map_congr_left fun q _ => ((setShare_name _ _ q).1).symm
  · rcases mem_set_or hu' with rfl | ⟨i, hi, hiu⟩
    · refine ⟨p0, fun y hy => ?_, ?_⟩
      · rcases mem_set_or hy with rfl | ⟨i, _, hiy⟩
        · rw [es]; exact ⟨c0, d0, h0, h1⟩
        · exact s0 y (List.mem_of_getElem? hiy)
      · show (t.l.set j (shared t.past share x)).map rowOf = ((R.map (setShare r.name share)).filter fun q => q.up == t.name).map fun q => (q.name, q.share)
        rw [ef, es, List.map_map]
        have e2 : ((fun q : Row9 => (q.name, q.share)) ∘ setShare r.name share) = (fun p : Str × Int => if p.1 == r.name then (p.1, share) else p) ∘ fun q : Row9 => (q.name, q.share) := by
          funext q
          show ((setShare r.name share q).name, (setShare r.name share q).share) = if (q.name == r.name) = true then (q.name, share) else (q.name, q.share)
          unfold setShare
          split <;> rfl
        rw [e2, ← List.map_map, ← r0, List.map_map]
        refine List.ext_getElem? fun i => ?_
        rw [List.getElem?_map, List.getElem?_map]
        by_cases q : i = j
        · subst q
          have hlt := (List.getElem?_eq_some_iff.mp hj).1
          rw [List.getElem?_set_self hlt, hj]
          show some (x.name, share) = some (if (x.name == r.name) = true then (x.name, share) else _)
          rw [if_pos (beq_iff_eq.mpr hx)]
        · rw [List.getElem?_set_ne (Ne.symm q)]
          cases e3 : t.l[i]? with
          | none => rfl
          | some y =>
            show some (rowOf y) = some (if (y.name == r.name) = true then (y.name, share) else rowOf y)
            rw [if_neg fun d => q (nodup_at nn e3 hj ((beq_iff_eq.mp d).trans hx.symm))]
    · obtain ⟨p1, s1, r1⟩ := h.st u (List.mem_of_getElem? hiu)
      refine ⟨p1, s1, ?_⟩
      rw [ef, r1, List.map_map]
      refine List.map_congr_left fun q hq => ?_
      obtain ⟨q1, q2⟩ := List.mem_filter.mp hq
      have hne : ¬ (q.name == r.name) = true := fun e => hi (nodup_at tn hiu hk (by rw [← beq_iff_eq.mp q2, hu, nd_row nd q1 hr (beq_iff_eq.mp e)]))
      show _ = ((setShare r.name share q).name, (setShare r.name share q).share)
      unfold setShare
      rw [if_neg hne]
  · obtain ⟨q0, hq0, rfl⟩ := List.mem_map.mp hq
    rw [en, (setShare_name _ _ q0).1, (setShare_name _ _ q0).2.1]
    exact h.ok q0 hq0
/-- a name that the law may hand in -/
inductive Nm9 (gs : List Str) (σ : Hp) : MV → Prop
  | good {x} : x ∈ gs → Nm9 gs σ (.str x)
  | bad {x} : badN x → Nm9 gs σ (.str x)
  | odd {v} : Odd σ v → (∀ a, v = .ref a → ∃ xs, σ a = some (3, .list xs)) → Nm9 gs σ v
theorem Nm9.nam {gs : List Str} {σ : Hp} {v : MV} (h : Nm9 gs σ v) : Nam σ v := by
  cases h with
  | good => exact .txt
  | bad => exact .txt
  | odd o _ => exact .odd o
theorem Odd.keep3 {σ σ' : Hp} {v : MV} (h : Odd σ v) (h3 : ∀ a, v = .ref a → ∃ xs, σ a = some (3, .list xs)) (k : ∀ {a o}, σ a = some (3, o) → σ' a = some (3, o)) : Odd σ' v := by
  cases h with
  | int => exact .int
  | none => exact .none
  | bool => exact .bool
  | list q => obtain ⟨xs, h⟩ := h3 _ rfl; exact .list (k h)
theorem Nm9.keep {gs : List Str} {σ σ' : Hp} {v : MV} (h : Nm9 gs σ v) (k : ∀ {a o}, σ a = some (3, o) → σ' a = some (3, o)) : Nm9 gs σ' v := by
  cases h with
  | good q => exact .good q
  | bad q => exact .bad q
  | odd o h3 => exact .odd (o.keep3 h3 k) fun a e => (h3 a e).imp fun _ q => k q
theorem Names9.keep {σ σ' : Hp} {N : Nat} {gs : List Str} {b1 b2 : Str} {o : MV} (h : Names9 σ N gs b1 b2 o) (k2 : ∀ {a o}, σ a = some (2, o) → σ' a = some (2, o)) (k3 : ∀ {a o}, σ a = some (3, o) → σ' a = some (3, o)) : Names9 σ' N gs b1 b2 o :=
  ⟨k2 h.lst, h.len, h.ok, h.bad1, h.bad2, h.odd.keep3 h.o3 k3, fun a e => (h.o3 a e).imp fun _ q => k3 q⟩
/-- what becomes of the rows -/
inductive Next9 (gs : List Str) (R : List Row9) (kind : Int) (v u sv : MV) : List Row9 → MV → Prop
  | no {s} : Next9 gs R kind v u sv R (.str s)
  | come {x y k} : v = .str x → u = .str y → sv = .int k → kind < 2 → x ∈ gs → Next9 gs R kind v u sv (R ++ [⟨x, y, k, kind == 0⟩]) .none
  | gone {x} : v = .str x → kind = 2 → Next9 gs R kind v u sv (R.filter fun q => q.name != x) .none
  | resh {x k} : v = .str x → sv = .int k → ¬ kind < 2 → ¬ kind = 2 → Next9 gs R kind v u sv (R.map (setShare x k)) .none
theorem any_name {R : List Row9} {x : Str} : (R.any fun r => eqN (.str x) r.name) = true ↔ ∃ r ∈ R, r.name = x := by
  rw [List.any_eq_true]
  exact ⟨fun ⟨r, h, e⟩ => ⟨r, h, beq_iff_eq.mp e⟩, fun ⟨r, h, e⟩ => ⟨r, h, beq_iff_eq.mpr e⟩⟩
theorem any_up {R : List Row9} {x : Str} : (R.any fun r => eqN (.str x) r.up) = true ↔ ∃ r ∈ R, r.up = x := by
  rw [List.any_eq_true]
  exact ⟨fun ⟨r, h, e⟩ => ⟨r, h, beq_iff_eq.mp e⟩, fun ⟨r, h, e⟩ => ⟨r, h, beq_iff_eq.mpr e⟩⟩
theorem any_odd {R : List Row9} {v : MV} (h : Odd σ v) (f : Row9 → Str) : (R.any fun r => eqN v (f r)) = false := by
  rw [List.any_eq_false]
  intro r _
  rw [eqN_odd h]; decide
theorem not_any {b : Bool} (h : ¬ b = true) : b = false := by cases b <;> first | rfl | exact absurd rfl h
theorem okS_int {σ : Hp} {v : MV} (hv : ShV σ v) (h : okS v = true) : ∃ k : Int, v = .int k ∧ 1 ≤ k ∧ k ≤ 12 := by
  cases hv with
  | @int k =>
    have h : (decide (1 ≤ k) && decide (k ≤ 12)) = true := h
    rw [Bool.and_eq_true] at h
    exact ⟨k, rfl, of_decide_eq_true h.1, of_decide_eq_true h.2⟩
  | bool => exact nomatch h
  | str => exact nomatch h
  | none => exact nomatch h
  | list q => exact nomatch h
theorem okN.ne {x : Str} (h : okN x) : x ≠ "" := h.ne_bad badN.empty
/-- how House.stand answers -/
theorem stand_due {H dw da : Nat} {tm : List Team} {ab : List (Str × Str)} {R : List Row9} {gs : List Str} {kind : Int} {v u sv : MV} (h : HouseD σ H dw da tm ab) (rl : Rel9 tm ab R) (gok : ∀ x ∈ gs, okN x) (hv : Nm9 gs σ v) (hu : Nam σ u) (hs : ShV σ sv) (k2 : kind < 2) :
    (∃ C s, dueV R gs kind v u sv = .str s ∧ Ref9 w mean mg mb C s ∧ ∀ {Q' : MV → Hp → Prop} {ρ' : Lo} {sc' : Scope} {X' : EX}, (∀ e σ', Extd σ σ' → X' false C e σ') → WFn (cx w mean mg mb) ⟨n + 4, true, sc'⟩ m_House_stand [.ref H, v, u, sv] ρ' Q' X' σ) ∨
    (dueV R gs kind v u sv = .none ∧ ∃ (x : Str) (k : Nat) (t : Team) (s : Int), v = .str x ∧ x ∈ gs ∧ x ∉ R.map (·.name) ∧ tm[k]? = some t ∧ u = .str t.name ∧ sv = .int s ∧ 1 ≤ s ∧ s ≤ 12) := by
  have er : Extd σ σ := fun _ _ q => q
  cases hv with
  | odd o _ =>
    have e1 : gs.any (eqN v) = false := by rw [List.any_eq_false]; intro x _; rw [eqN_odd o]; decide
    refine .inl ⟨a_BadName, "bad name", by unfold dueV; rw [if_pos k2, if_pos e1], ref_BadName, fun {Q' ρ' sc' X'} hx => ?_⟩
    cases o with
    | int => exact stand_odd .int k_int_str fun e => hx e σ er
    | none => exact stand_odd .none k_NoneType_str fun e => hx e σ er
    | bool => exact stand_odd .bool k_bool_str fun e => hx e σ er
    | list q => exact stand_odd (.list q) k_list_str fun e => hx e σ er
  | @bad x hb =>
    have e1 : gs.any (eqN (.str x)) = false := by
      rw [List.any_eq_false]
      intro y hy q
      exact (gok y hy).ne_bad hb (beq_iff_eq.mp q)
    exact .inl ⟨a_BadName, "bad name", by unfold dueV; rw [if_pos k2, if_pos e1], ref_BadName, fun {Q' ρ' sc' X'} hx => stand_bad (Nat.le_trans hb.len (by decide)) hb.asc hb.bad hx⟩
  | @good x hg =>
    have e1 : ¬ gs.any (eqN (.str x)) = false := by
      rw [show gs.any (eqN (.str x)) = true from List.any_eq_true.mpr ⟨x, hg, beq_self_eq_true x⟩]; decide
    have ox := gok x hg
    have lx : x.length ≤ 1000 := Nat.le_trans ox.l8 (by decide)
    have ax := ox.le.ascii
    by_cases c2 : (R.any fun r => eqN (.str x) r.name) = true
    · obtain ⟨r, hr, e⟩ := any_name.mp c2
      refine .inl ⟨a_Twice, "twice", by unfold dueV; rw [if_pos k2, if_neg e1, if_pos c2], ref_Twice, fun {Q' ρ' sc' X'} hx => stand_twice (up := r.up) h lx ax ox.good ?_ hx⟩
      rw [rl.ab]
      exact List.mem_map.mpr ⟨r, hr, by rw [e]⟩
    · have hn : x ∉ R.map (·.name) := fun q => by
        obtain ⟨r, hr, e⟩ := List.mem_map.mp q
        exact c2 (any_name.mpr ⟨r, hr, e⟩)
      have hna : x ∉ ab.map (·.1) := by rw [rl.ab, List.map_map]; exact hn
      by_cases c3 : eqN u "" = false ∧ (R.any fun r => eqN u r.name && r.team) = false
      · refine .inl ⟨a_NoTeam, "no team", by unfold dueV; rw [if_pos k2, if_neg e1, if_neg c2, if_pos c3], ref_NoTeam, fun {Q' ρ' sc' X'} hx => stand_noteam h lx ax ox.good hna (fun σ' e => ?_) hx⟩
        cases hu with
        | @txt y =>
          refine NoTeamV.str (h.ext e) fun q => ?_
          rcases (team_is rl y).mp q with q | q
          · subst q; exact nomatch c3.1
          · rw [c3.2] at q; exact nomatch q
        | odd o => exact odd_noteam (o.ext e)
      · have ht : ∃ t ∈ tm, u = .str t.name := by
          cases hu with
          | @txt y =>
            have : y ∈ tm.map (·.name) := by
              refine (team_is rl y).mpr ?_
              by_cases q : y = ""
              · exact .inl q
              · refine .inr ?_
                cases q2 : (R.any fun r => eqN (.str y) r.name && r.team) with
                | true => rfl
                | false => exact absurd ⟨beq_eq_false_iff_ne.mpr (Ne.symm q), q2⟩ c3
            obtain ⟨t, ht, e⟩ := List.mem_map.mp this
            exact ⟨t, ht, by rw [e]⟩
          | odd o =>
            refine absurd ⟨eqN_odd o _, ?_⟩ c3
            rw [List.any_eq_false]
            intro r _
            rw [eqN_odd o, Bool.false_and]; decide
        obtain ⟨t, ht, rfl⟩ := ht
        by_cases c4 : okS sv = true
        · obtain ⟨s, rfl, s0, s1⟩ := okS_int hs c4
          obtain ⟨k, hk⟩ := List.mem_iff_getElem?.mp ht
          exact .inr ⟨by unfold dueV; rw [if_pos k2, if_neg e1, if_neg c2, if_neg c3, if_pos c4], x, k, t, s, rfl, hg, hn, hk, rfl, rfl, s0, s1⟩
        · exact .inl ⟨a_BadShare, "bad share", by unfold dueV; rw [if_pos k2, if_neg e1, if_neg c2, if_neg c3, if_neg c4], ref_BadShare, fun {Q' ρ' sc' X'} hx => stand_badshare h lx ax ox.good hna ht (fun σ' e => noShare (hs.ext e) (not_any c4)) hx⟩
/-- how House.need answers where nobody has the name -/
theorem need_due {H dw da : Nat} {tm : List Team} {ab : List (Str × Str)} {R : List Row9} {v : MV} (h : HouseD σ H dw da tm ab) (rl : Rel9 tm ab R) (hv : Nam σ v) (hn : (R.any fun r => eqN v r.name) = false) (hx : ∀ e, X false a_NoName e σ) : WFn (cx w mean mg mb) ⟨n + 1, true, sc⟩ m_House_need [.ref H, v] ρ Q X σ := by
  cases hv with
  | @txt x =>
    refine hneed_no h (fun q => ?_) hx
    rw [rl.ab, List.map_map] at q
    obtain ⟨r, hr, e⟩ := List.mem_map.mp q
    rw [any_name.mpr ⟨r, hr, e⟩] at hn
    exact nomatch hn
  | odd o =>
    cases o with
    | int => exact hneed_odd .int k_int_str hx
    | none => exact hneed_odd .none k_NoneType_str hx
    | bool => exact hneed_odd .bool k_bool_str hx
    | list q => exact hneed_odd (.list q) k_list_str hx
theorem Rel9.tlen {tm : List Team} {ab : List (Str × Str)} {R : List Row9} (h : Rel9 tm ab R) : tm.length ≤ R.length + 1 := by
  have := congrArg List.length h.tn
  rw [List.length_map, List.length_cons, List.length_map] at this
  rw [this]
  exact Nat.succ_le_succ (List.length_filter_le _ _)
theorem Rel9.llen {tm : List Team} {ab : List (Str × Str)} {R : List Row9} (h : Rel9 tm ab R) {t : Team} (ht : t ∈ tm) : t.l.length ≤ R.length := by
  have := congrArg List.length (h.st t ht).2.2
  rw [List.length_map, List.length_map] at this
  rw [this]
  exact List.length_filter_le _ _
theorem Rel9.alen {tm : List Team} {ab : List (Str × Str)} {R : List Row9} (h : Rel9 tm ab R) : ab.length = R.length := by rw [h.ab, List.length_map]
theorem g_set {tm : List Team} {k g : Nat} {t t' : Team} (hk : tm[k]? = some t) (e : t'.g = t.g) (h : ∀ u ∈ tm, u.g < g) : ∀ u ∈ tm.set k t', u.g < g + 1 := fun u hu => by
  rcases mem_set_or hu with rfl | ⟨i, _, hi⟩
  · rw [e]; exact Nat.lt_succ_of_lt (h t (List.mem_of_getElem? hk))
  · exact Nat.lt_succ_of_lt (h u (List.mem_of_getElem? hi))
theorem Extd.kpH {σ σ' : Hp} (e : Extd σ σ') : KpH σ σ' := fun _ _ _ q _ _ => e _ _ q
/-- a deed on the house: it answers as is due, and the rows follow -/
theorem done_c {H dw da g : Nat} {tm : List Team} {ab : List (Str × Str)} {R : List Row9} {gs : List Str} {kind : Int} {v u sv : MV} (h : HouseD σ H dw da tm ab) (rl : Rel9 tm ab R) (gok : ∀ x ∈ gs, okN x) (hz : R.length ≤ 1000) (hg0 : 100 ≤ g) (hg : ∀ t ∈ tm, t.g < g) (hv : Nm9 gs σ v) (hu : Nam σ u) (hs : ShV σ sv) (k0 : 0 ≤ kind)
    (hq : ∀ tm' ab' R' σ', HouseD σ' H dw da tm' ab' → Rel9 tm' ab' R' → (∀ t ∈ tm', t.g < g + 1) → KpH σ σ' → Next9 gs R kind v u sv R' (dueV R gs kind v u sv) → Q (dueV R gs kind v u sv) σ') : WFn (cx w mean mg mb) ⟨n + 6, true, sc⟩ a_law_done [.ref H, .int kind, v, u, sv] ρ Q X σ := by
  have er : Extd σ σ := fun _ _ q => q
  have hg1 : ∀ t ∈ tm, t.g < g + 1 := fun t ht => Nat.lt_succ_of_lt (hg t ht)
  have bad : ∀ {s σ'}, dueV R gs kind v u sv = .str s → Extd σ σ' → Q (.str s) σ' := fun {s σ'} e ex => by
    have := hq tm ab R σ' (h.ext ex) rl hg1 ex.kpH (by rw [e]; exact .no)
    rwa [e] at this
  have al := rl.alen
  have tl := rl.tlen
  by_cases k2 : kind < 2
  · rcases stand_due (n := n) (w := w) (mean := mean) (mg := mg) (mb := mb) h rl gok hv hu hs k2 with ⟨C, s, ed, rf, hst⟩ | ⟨ed, x, k, t, s, rfl, hgx, hnx, hk, rfl, rfl, s0, s1⟩
    · have hb := fun {σ'} => @bad s σ' ed
      by_cases c0 : kind = 0
      · subst c0
        exact done_bad0 h rf (fun {Q' ρ' sc' X'} hx => team_bad h fun {Q2 ρ2 sc2} => hst hx) fun σ' e => hb e
      · obtain rfl : kind = 1 := by omega
        exact done_bad1 h rf (fun {Q' ρ' sc' X'} hx => hand_bad h fun {Q2 ρ2 sc2} => hst hx) fun σ' e => hb e
    · have ox := gok x hgx
      have lx : x.length ≤ 1000 := Nat.le_trans ox.l8 (by decide)
      have hna : x ∉ ab.map (·.1) := by rw [rl.ab, List.map_map]; exact hnx
      have hmt := List.mem_of_getElem? hk
      have tll := rl.llen hmt
      have htn := rl.tnot hnx ox.ne
      rw [ed] at hq
      by_cases c0 : kind = 0
      · subst c0
        refine done_ok0 (fun σ' => ∃ a W d, HouseD σ' H dw da (tm.set k { t with l := t.l ++ [⟨x, a, s, 0, false⟩] } ++ [⟨x, W, d, g, 0, []⟩]) (ab ++ [(x, t.name)]) ∧ KpH σ σ') h (fun {Q' ρ' sc' X'} hx => team_ok g hg0 h (fun q => ?_) lx ox.le.ascii ox.good hna htn hk s0 s1 (rl.out hmt hnx) (by omega) (by omega) (by omega) fun a W d σ' h' k' => hx σ' ⟨a, W, d, h', k'⟩) fun σ' ⟨a, W, d, h', k'⟩ => ?_
        · obtain ⟨t', ht', e⟩ := List.mem_map.mp q
          exact absurd e (Nat.ne_of_lt (hg t' ht'))
        · refine hq _ _ _ σ' h' (rl.comeT h.tn hk ox s0 s1 htn) (fun t' ht' => ?_) k' (.come rfl rfl rfl k2 hgx)
          rcases List.mem_append.mp ht' with q | q
          · exact g_set (t' := { t with l := t.l ++ [⟨x, a, s, 0, false⟩] }) hk rfl hg t' q
          · rw [List.mem_singleton.mp q]; exact Nat.lt_succ_self g
      · obtain rfl : kind = 1 := by omega
        refine done_ok1 (fun σ' => ∃ a, HouseD σ' H dw da (tm.set k { t with l := t.l ++ [⟨x, a, s, 0, false⟩] }) (ab ++ [(x, t.name)]) ∧ KpH σ σ') h (fun {Q' ρ' sc' X'} hx => hand_ok h lx ox.le.ascii ox.good hna hk s0 s1 (rl.out hmt hnx) (by omega) (by omega) fun a σ' h' k' => hx σ' ⟨a, h', k'⟩) fun σ' ⟨a, h', k'⟩ => ?_
        exact hq _ _ _ σ' h' (rl.come h.tn hk ox s0 s1) (g_set (t' := { t with l := t.l ++ [⟨x, a, s, 0, false⟩] }) hk rfl hg) k' (.come rfl rfl rfl k2 hgx)
  · by_cases cn : (R.any fun r => eqN v r.name) = false
    · have ed : dueV R gs kind v u sv = .str "no name" := by unfold dueV; rw [if_neg k2, if_pos cn]
      by_cases c2 : kind = 2
      · subst c2
        exact done_bad2 h ref_NoName (fun {Q' ρ' sc' X'} hx => leave_hno (n := n + 1) h fun {Q2 ρ2 sc2} => need_due (n := n + 3) h rl hv.nam cn fun e => hx e σ er) fun σ' e => bad ed e
      · exact done_bad3 (by omega) (by omega) c2 h ref_NoName (fun {Q' ρ' sc' X'} hx => reshare_hno (n := n + 1) h fun {Q2 ρ2 sc2} => need_due (n := n + 3) h rl hv.nam cn fun e => hx e σ er) fun σ' e => bad ed e
    · have cy : (R.any fun r => eqN v r.name) = true := by cases q : (R.any fun r => eqN v r.name) <;> first | rfl | exact absurd q cn
      have hx : ∃ x, v = .str x := by
        cases hv with
        | good => exact ⟨_, rfl⟩
        | bad => exact ⟨_, rfl⟩
        | odd o _ => exact absurd (any_odd o (·.name)) cn
      obtain ⟨x, rfl⟩ := hx
      obtain ⟨r, hr, rfl⟩ := any_name.mp cy
      obtain ⟨k, t, j, x, hk, etu, hj, exn, hm, x0, xr, x1, x12⟩ := rl.place hr
      have hmt := List.mem_of_getElem? hk
      have nn := (h.whl t hmt).nn
      have tll := rl.llen hmt
      by_cases c2 : kind = 2
      · subst c2
        by_cases cu : (R.any fun q => eqN (.str r.name) q.up) = true
        · have ed : dueV R gs 2 (.str r.name) u sv = .str "not empty" := by unfold dueV; rw [if_neg k2, if_neg cn, if_pos rfl, if_pos cu]
          obtain ⟨r', hr', eu⟩ := any_up.mp cu
          obtain ⟨k', t', j', x', hk', etu', hj', _⟩ := rl.place hr'
          have en : t'.name = r.name := etu'.trans eu
          refine done_bad2 h ref_NotEmpty (fun {Q' ρ' sc' X'} hx => ?_) fun σ' e => bad ed e
          rw [← en]
          refine leave_full (n := n + 1) (up := t.name) h (List.mem_of_getElem? hk') (Nat.lt_of_le_of_lt (Nat.zero_le _) (List.getElem?_eq_some_iff.mp hj').1) ?_ (by rw [en, ← exn]; exact hm) hx
          have := rl.llen (List.mem_of_getElem? hk')
          omega
        · have ed : dueV R gs 2 (.str r.name) u sv = .none := by unfold dueV; rw [if_neg k2, if_neg cn, if_pos rfl, if_neg cu]
          rw [ed] at hq
          have nup : ∀ q ∈ R, q.up ≠ r.name := fun q hq e => cu (any_up.mpr ⟨q, hq, e⟩)
          rw [← exn]
          cases hrt : r.team with
          | false =>
            have hnt : x.name ∉ tm.map (·.name) := fun q => by
              rcases (team_is rl x.name).mp q with q | q
              · exact (rl.ok r hr).1.ne (exn ▸ q)
              · obtain ⟨r', hr', e⟩ := List.any_eq_true.mp q
                rw [Bool.and_eq_true] at e
                have : r' = r := nd_row (rl.nd h.an) hr' hr ((beq_iff_eq.mp e.1).trans exn)
                rw [this, hrt] at e
                exact nomatch e.2
            refine done_ok2 (fun σ' => HouseD σ' H dw da (tm.set k { t with l := t.l.eraseIdx j }) (ab.filter fun p => decide (p.1 ≠ x.name)) ∧ KpH σ σ') h (fun {Q' ρ' sc' X'} hx => leave_hand (n := n + 1) h hk hm hnt hj xr (by omega) (by omega) fun σ' h' k' => hx σ' ⟨h', k'⟩) fun σ' ⟨h', k'⟩ => ?_
            refine hq _ _ _ σ' h' (rl.gone h.an (fun _ q => q) h.tn hk hj nn hr exn etu ?_ fun q hq' _ => (rl.ok q hq').2) (g_set (t' := { t with l := t.l.eraseIdx j }) hk rfl hg) k' (.gone rfl rfl)
            rw [rl.tn, List.filter_filter]
            congr 2
            refine List.filter_congr fun q hq' => ?_
            cases c : q.team with
            | false => rfl
            | true =>
              show true = (true && (q.name != r.name))
              rw [Bool.true_and]
              refine (bne_iff_ne.mpr fun e => ?_).symm
              rw [nd_row (rl.nd h.an) hq' hr e, hrt] at c
              exact nomatch c
          | true =>
            obtain ⟨u0, hu0, eu0⟩ := List.mem_map.mp ((team_is rl r.name).mpr (.inr (List.any_eq_true.mpr ⟨r, hr, by rw [Bool.and_eq_true]; exact ⟨beq_self_eq_true _, hrt⟩⟩)))
            have hl0 : u0.l = [] := by
              have := congrArg List.length (rl.st u0 hu0).2.2
              rw [List.length_map, List.length_map, List.filter_eq_nil_iff.mpr fun q hq' e => nup q hq' ((beq_iff_eq.mp e).trans eu0)] at this
              exact List.eq_nil_of_length_eq_zero this
            have htm' : t ∈ tm.filter fun u => decide (u.name ≠ x.name) := List.mem_filter.mpr ⟨hmt, decide_eq_true (by rw [etu, exn]; exact nup r hr)⟩
            obtain ⟨k', hk'⟩ := List.mem_iff_getElem?.mp htm'
            refine done_ok2 (fun σ' => HouseD σ' H dw da ((tm.filter fun u => decide (u.name ≠ x.name)).set k' { t with l := t.l.eraseIdx j }) (ab.filter fun p => decide (p.1 ≠ x.name)) ∧ KpH σ σ') h (fun {Q' ρ' sc' X'} hx => leave_team (n := n + 1) h hu0 (eu0.trans exn.symm) hl0 hk' hm hj (by omega) (by omega) (by omega) fun σ' h' k' => hx σ' ⟨h', k'⟩) fun σ' ⟨h', kp'⟩ => ?_
            have sub : (tm.filter fun u => decide (u.name ≠ x.name)).Sublist tm := List.filter_sublist
            have en1 : (tm.filter fun u => decide (u.name ≠ x.name)).map (·.name) = (tm.map (·.name)).filter fun y => y != r.name := by
              rw [List.filter_map, exn]
              congr 1
              refine List.filter_congr fun q _ => ?_
              show decide (q.name ≠ r.name) = (q.name != r.name)
              by_cases c : q.name = r.name
              · rw [decide_eq_false (fun d => d c), c]; simp
              · rw [decide_eq_true c]; exact (bne_iff_ne.mpr c).symm
            have tn' : (tm.filter fun u => decide (u.name ≠ x.name)).map (·.name) = ("" : Str) :: ((R.filter fun q => q.name != r.name).filter (·.team)).map (·.name) := by
              rw [en1, rl.tn, List.filter_cons, if_pos (bne_iff_ne.mpr (rl.ok r hr).1.ne.symm), List.filter_map, List.filter_filter, List.filter_filter]
              congr 2
              refine List.filter_congr fun q _ => ?_
              exact Bool.and_comm _ _
            refine hq _ _ _ σ' h' (rl.gone h.an (fun _ q => sub.subset q) (List.Nodup.sublist (sub.map _) h.tn) hk' hj nn hr exn etu tn' fun q hq' _ => ?_) (g_set (t' := { t with l := t.l.eraseIdx j }) hk' rfl fun t' ht' => hg t' (sub.subset ht')) kp' (.gone rfl rfl)
            rw [en1]
            exact List.mem_filter.mpr ⟨(rl.ok q hq').2, bne_iff_ne.mpr (nup q hq')⟩
      · by_cases c4 : okS sv = true
        · have ed : dueV R gs kind (.str r.name) u sv = .none := by unfold dueV; rw [if_neg k2, if_neg cn, if_neg c2, if_pos c4]
          obtain ⟨s, rfl, s0, s1⟩ := okS_int hs c4
          rw [ed] at hq
          rw [← exn]
          refine done_ok3 (by omega) (by omega) c2 (fun σ' => HouseD σ' H dw da (tm.set k { t with l := t.l.set j (shared t.past s x) }) ab ∧ KpH σ σ') h (fun {Q' ρ' sc' X'} hx => reshare_h (n := n + 1) h hk hm hj s0 s1 x1 x12 fun σ' h' k' => hx σ' ⟨h', k'⟩) fun σ' ⟨h', k'⟩ => ?_
          exact hq _ _ _ σ' h' (rl.resh h.an h.tn hk hj nn hr exn etu s0 s1) (g_set (t' := { t with l := t.l.set j (shared t.past s x) }) hk rfl hg) k' (.resh rfl rfl k2 c2)
        · have ed : dueV R gs kind (.str r.name) u sv = .str "bad share" := by unfold dueV; rw [if_neg k2, if_neg cn, if_neg c2, if_neg c4]
          refine done_bad3 (by omega) (by omega) c2 h ref_BadShare (fun {Q' ρ' sc' X'} hx => ?_) fun σ' e => bad ed e
          rw [← exn]
          exact reshare_hbad (n := n + 1) h hk hm hj (noShare hs (not_any c4)) fun e => hx e σ er
def lawPost : MF → Lo → Hp → Prop := fun m _ _ => m = .ret (.bool true)
theorem nm_mem {σ : Hp} {N : Nat} {gs : List Str} {b1 b2 : Str} {o v : MV} (h : Names9 σ N gs b1 b2 o) (hv : v ∈ gs.map MV.str ++ [.str "", .str b1, .str b2, o]) : Nm9 gs σ v := by
  rcases List.mem_append.mp hv with q | q
  · obtain ⟨x, hx, e⟩ := List.mem_map.mp q
    rw [← e]; exact .good hx
  · simp only [List.mem_cons, List.not_mem_nil, or_false] at q
    rcases q with q | q | q | q <;> rw [q]
    · exact .bad badN.empty
    · exact .bad h.bad1
    · exact .bad h.bad2
    · exact .odd h.odd h.o3
theorem name_at {σ : Hp} {N : Nat} {gs : List Str} {b1 b2 : Str} {o : MV} (h : Names9 σ N gs b1 b2 o) {i : Int} (h0 : 0 ≤ i) (h9 : i < 9) : ∃ v, (gs.map MV.str ++ [.str "", .str b1, .str b2, o])[i.toNat]? = some v ∧ Nm9 gs σ v := by
  have hl : (gs.map MV.str ++ [.str "", .str b1, .str b2, o]).length = 9 := by rw [List.length_append, List.length_map, h.len]; rfl
  have hlt : i.toNat < (gs.map MV.str ++ [.str "", .str b1, .str b2, o]).length := by omega
  exact ⟨_, List.getElem?_eq_getElem hlt, nm_mem h (List.getElem_mem hlt)⟩
theorem above_at {σ : Hp} {N : Nat} {gs : List Str} {b1 b2 : Str} {o : MV} (h : Names9 σ N gs b1 b2 o) {i : Int} (h0 : 0 ≤ i) (h12 : i < 12) : ∃ v, ([MV.str "", MV.str "", MV.str ""] ++ (gs.map MV.str ++ [.str "", .str b1, .str b2, o]))[i.toNat]? = some v ∧ Nm9 gs σ v := by
  by_cases c : i < 3
  · refine ⟨.str "", ?_, .bad badN.empty⟩
    have : i = 0 ∨ i = 1 ∨ i = 2 := by omega
    rcases this with rfl | rfl | rfl <;> rfl
  · obtain ⟨v, hv, hn⟩ := name_at h (i := i - 3) (by omega) (by omega)
    refine ⟨v, ?_, hn⟩
    rw [List.getElem?_append_right (by simp; omega)]
    have e : i.toNat - [MV.str "", .str "", .str ""].length = (i - 3).toNat := by simp; omega
    rw [e]; exact hv
theorem share_at {σ : Hp} {A t : Nat} (hA : σ A = some (t, .list [.int 3])) {i : Int} (h0 : 0 ≤ i) (h19 : i < 19) : ∃ v, (tabl 14 (fun k : Nat => MV.int (k : Int)) ++ [MV.bool true, MV.str "3", MV.none, MV.int ((10 : Int) ^ (Int.toNat 20)), MV.ref A])[i.toNat]? = some v ∧ ShV σ v := by
  have hl : (tabl 14 (fun k : Nat => MV.int (k : Int)) ++ [MV.bool true, MV.str "3", MV.none, MV.int ((10 : Int) ^ (Int.toNat 20)), MV.ref A]).length = 19 := by rw [List.length_append]; rfl
  have hlt : i.toNat < (tabl 14 (fun k : Nat => MV.int (k : Int)) ++ [MV.bool true, MV.str "3", MV.none, MV.int ((10 : Int) ^ (Int.toNat 20)), MV.ref A]).length := by omega
  refine ⟨_, List.getElem?_eq_getElem hlt, ?_⟩
  rcases List.mem_append.mp (List.getElem_mem hlt) with q | q
  · obtain ⟨x, hx, e⟩ := List.mem_map.mp (show _ ∈ (List.range (Int.toNat 14)).map _ from q)
    rw [← e]; exact .int
  · simp only [List.mem_cons, List.not_mem_nil, or_false] at q
    rcases q with q | q | q | q | q <;> rw [q]
    · exact .bool
    · exact .str
    · exact .none
    · exact .int
    · exact .list hA
/-- the names of the teams, by the rows -/
theorem tmap9 {i : Ix} {ρ : Lo} {x : Str} {t elt : Expr} {B : Nat} {R : List Row9} {ts : List Nat} {σ : Hp} (hR : Rows9 σ B R ts) {Qc : List MV → Hp → Prop}
    (h : ∀ (u : Nat) (r : Row9), σ u = some (7, .list [.str r.name, .str r.up, .int r.share, .bool r.team]) → ∀ K : Bool → Hp → Prop, K r.team σ → WT (cx w mean mg mb) i t (ρ.put x (.ref u)) K noX σ)
    (h' : ∀ (u : Nat) (r : Row9), σ u = some (7, .list [.str r.name, .str r.up, .int r.share, .bool r.team]) → ∀ K : MV → Hp → Prop, K (.str r.name) σ → WE (cx w mean mg mb) i elt (ρ.put x (.ref u)) K noX σ)
    (hq : Qc (((R.filter (·.team)).map (·.name)).map .str) σ) : WComp (cx w mean mg mb) i x elt [t] (fun σ => ListAt σ B (ts.map .ref)) Qc ρ (ts.map .ref) [] σ := by
  have e0 : ∀ {ts : List Nat} {R : List Row9}, All2 (RowAt σ) ts R → ((ts.map MV.ref).filter fun v => (dec σ v).any (·.team)).map (fun v => MV.str ((dec σ v).elim "" (·.name))) = ((R.filter (·.team)).map (·.name)).map .str := fun h => by
    induction h with
    | nil => rfl
    | @cons t r l m e _ ih =>
      rw [List.map_cons, List.filter_cons, List.filter_cons, dec_at e]
      show List.map _ (if r.team = true then _ else _) = _
      cases hq : r.team with
      | true => rw [if_pos rfl, if_pos rfl, List.map_cons, ih, dec_at e]; rfl
      | false => rw [if_neg (by decide), if_neg (by decide), ih]
  refine WComp.filter (ListAt.own hR.lst) (p := fun v => (dec σ v).any (·.team)) (f := fun v => MV.str ((dec σ v).elim "" (·.name))) (fun v hv K hK => ?_) (fun v hv hp K hK => ?_) (by rw [e0 hR.row]; exact hq)
  · obtain ⟨u, hu, rfl⟩ := List.mem_map.mp hv
    obtain ⟨j, hj⟩ := List.mem_iff_getElem?.mp hu
    obtain ⟨r, _, e⟩ := hR.row.get hj
    refine h u r e K ?_
    rw [dec_at e] at hK
    exact hK
  · obtain ⟨u, hu, rfl⟩ := List.mem_map.mp hv
    obtain ⟨j, hj⟩ := List.mem_iff_getElem?.mp hu
    obtain ⟨r, _, e⟩ := hR.row.get hj
    refine h' u r e K ?_
    rw [dec_at e] at hK
    exact hK
/-- what a round keeps -/
structure Rd9 (σ : Hp) (H dw da B N g : Nat) (gs : List Str) (b1 b2 : Str) (o : MV) (tm : List Team) (ab : List (Str × Str)) (R : List Row9) (ts : List Nat) : Prop where
  h : HouseD σ H dw da tm ab
  rel : Rel9 tm ab R
  rows : Rows9 σ B R ts
  nms : Names9 σ N gs b1 b2 o
  gk : ∀ t ∈ tm, t.g < g
  rn : ∀ r ∈ R, r.name ∈ gs
theorem Rd9.ext {σ σ' : Hp} {H dw da B N g : Nat} {gs : List Str} {b1 b2 : Str} {o : MV} {tm : List Team} {ab : List (Str × Str)} {R : List Row9} {ts : List Nat} (d : Rd9 σ H dw da B N g gs b1 b2 o tm ab R ts) (e : Extd σ σ') : Rd9 σ' H dw da B N g gs b1 b2 o tm ab R ts :=
  ⟨d.h.ext e, d.rel, d.rows.ext e, d.nms.keep (fun q => e _ _ q) (fun q => e _ _ q), d.gk, d.rn⟩
theorem Rd9.oth {σ σ' : Hp} {H dw da B N g : Nat} {gs : List Str} {b1 b2 : Str} {o : MV} {tm : List Team} {ab : List (Str × Str)} {R : List Row9} {ts : List Nat} (d : Rd9 σ H dw da B N g gs b1 b2 o tm ab R ts) (e : Oth 20 σ σ') : Rd9 σ' H dw da B N g gs b1 b2 o tm ab R ts :=
  ⟨d.h.keep (fun q => e.at q (by decide)) (fun q h => e.at q (by omega)), d.rel, d.rows.keep (fun q => e.at q (by decide)) (fun q => e.at q (by decide)), d.nms.keep (fun q => e.at q (by decide)) (fun q => e.at q (by decide)), d.gk, d.rn⟩
theorem law_A0 : ∃ body scope, FnAt (cx w mean mg mb) a_law ["_law_script"] body scope ∧ ∀ (l0 : Nat) (ns : List Int) (ol : Obj), ns.length ≤ 63 →
    WSs (cx w mean mg mb) ⟨200, true, scope⟩ body (bindLo ["_law_script"] [.ref l0] fun _ => Option.none) lawPost noSX (lawHp l0 ns ol) := by
  refine ⟨_, _, ⟨⟨_, _, _, _, _, _, _, _, _, _, _, _, _, (rfl : (Mine.hd.heap_39 w.params).lookup a_law = _), by kernel_rfl, us1 fun _ => rfl⟩, by kernel_rfl⟩, ?_⟩
  intro l0 ns ol hz
  change WSs _ _ _ (ρ0.put "_law_script" (.ref l0)) _ _ _
  have hs : (lawHp l0 ns ol) l0 = some (0, .klist (ns.map .int) ol) := if_pos rfl
  generalize lawHp l0 ns ol = σ at hs ⊢
  refine WSs.splitO (fun ρ1 σ1 => (∃ N gs b1 b2 o, Names9 σ1 N gs b1 b2 o ∧ ρ1 "_law_names" = some (.ref N)) ∧ Extd σ σ1 ∧ ρ1 "_law_script" = some (.ref l0) ∧ ρ1 (".0" : Str) = Option.none) ?_ ?_
  · intro KS hKS
    cases ns with
    | nil =>
      with_reducible refine WS.assign (by with_unfolding_all (first | exact fun _ _ => rfl | exact fun _ _ _ => rfl)) ?_
      with_reducible refine WE.call rfl rfl ?_
      with_reducible refine WE.globalA (by kernel_rfl) g_law_names_by ?_
      with_reducible refine And.intro (Callee.fn fn_law_names_by) ?_
      with_reducible refine WEs.cons rfl ?_
      with_reducible refine WE.ifexp ?_
      with_reducible refine WT.cmp1 rfl ?_
      with_reducible refine WE.localA (by kernel_rfl) (by kernel_rfl) (by walk_at "lk") ?_
      refine WE.list 9 ?_
      with_reducible refine WEs.nil ?_
      refine ⟨by simp, fun E hE => ?_⟩
      refine WC.ne (Nat.succ_le_succ (Nat.zero_le _)) (by decide) (RnV.listT (k := 1) (ListAt.k (Hp.new hE.none hs)) (ListAt.own Hp.self) .nil) ?_
      with_reducible refine WTr.bool ?_
      with_reducible refine if_ff ?_
      with_reducible refine WE.int ?_
      with_reducible refine WEs.nil ?_
      refine WCall.of_fn (names_by_c fun N gs b1 b2 o σ1 hN e1 => ?_)
      with_reducible refine WSt.localA (by kernel_rfl) ?_
      exact hKS _ _ ⟨⟨N, gs, b1, b2, o, hN, by walk_at "lk"⟩, fun a p q => e1 _ _ (Hp.new hE.none q), by walk_at "lk", by ((repeat (first | (with_reducible assumption) | (with_reducible refine Lo.put_ne (by kernel_rfl) ?_))); rfl)⟩
    | cons n0 ns =>
      have z0 : (List.map MV.int (n0 :: ns))[Int.toNat 0]? = some (.int n0) := rfl
      with_reducible refine WS.assign (by with_unfolding_all (first | exact fun _ _ => rfl | exact fun _ _ _ => rfl)) ?_
      with_reducible refine WE.call rfl rfl ?_
      with_reducible refine WE.globalA (by kernel_rfl) g_law_names_by ?_
      with_reducible refine And.intro (Callee.fn fn_law_names_by) ?_
      with_reducible refine WEs.cons rfl ?_
      with_reducible refine WE.ifexp ?_
      with_reducible refine WT.cmp1 rfl ?_
      with_reducible refine WE.localA (by kernel_rfl) (by kernel_rfl) (by walk_at "lk") ?_
      refine WE.list 9 ?_
      with_reducible refine WEs.nil ?_
      refine ⟨by simp, fun E hE => ?_⟩
      refine WC.ne (Nat.succ_le_succ (Nat.zero_le _)) (by decide) (RnV.listF (ListAt.k (Hp.new hE.none hs)) (ListAt.own Hp.self) (by simp)) ?_
      have hsE := Hp.new (t := 9) (o := .list []) hE.none hs
      with_reducible refine WTr.bool ?_
      with_reducible refine if_tt ?_
      with_reducible refine WE.sub ?_
      with_reducible refine WE.localA (by kernel_rfl) (by kernel_rfl) (by walk_at "lk") ?_
      with_reducible refine WE.int ?_
      with_reducible refine WSub.list (by with_unfolding_all (first | exact fun _ _ => rfl | exact fun _ _ _ => rfl)) (by first | with_reducible assumption | ((with_reducible apply ListAt.own); walk_at "hp") | ((with_reducible apply ListAt.k); walk_at "hp")) (by walk_at "ar") (by walk_at "ar") (by with_reducible assumption) ?_
      with_reducible refine WEs.nil ?_
      refine WCall.of_fn (names_by_c fun N gs b1 b2 o σ1 hN e1 => ?_)
      with_reducible refine WSt.localA (by kernel_rfl) ?_
      exact hKS _ _ ⟨⟨N, gs, b1, b2, o, hN, by walk_at "lk"⟩, fun a p q => e1 _ _ (Hp.new hE.none q), by walk_at "lk", by ((repeat (first | (with_reducible assumption) | (with_reducible refine Lo.put_ne (by kernel_rfl) ?_))); rfl)⟩
  rintro ρ1 σ1 ⟨⟨N, gs, b1, b2, o, hN, r1⟩, e1, r0, rd⟩
  have hs1 := e1 _ _ hs
  clear hs e1
  with_reducible refine WSs.cons ?_
  with_reducible refine WS.assign (by with_unfolding_all (first | exact fun _ _ => rfl | exact fun _ _ _ => rfl)) ?_
  with_reducible refine WE.call rfl rfl ?_
  with_reducible refine WE.globalA (by kernel_rfl) g_House ?_
  with_reducible refine And.intro (Callee.cls mi_House) ?_
  with_reducible refine WEs.nil ?_
  refine WCall.of_fn (make_house 100 (Nat.le_refl _) fun H dw da W d σ2 h2 e2 => ?_)
  with_reducible refine WSt.localA (by kernel_rfl) ?_
  with_reducible refine WSs.cons ?_
  with_reducible refine WS.assign (by with_unfolding_all (first | exact fun _ _ => rfl | exact fun _ _ _ => rfl)) ?_
  refine WE.list 6 ?_
  with_reducible refine WEs.nil ?_
  refine ⟨by simp, fun B hB => ?_⟩
  have e3 : Extd σ1 (σ2.put B 6 (.list [])) := fun a p q => Hp.new hB.none (e2 _ _ q)
  have d3 : Rd9 (σ2.put B 6 (.list [])) H dw da B N 101 gs b1 b2 o [⟨"", W, d, 100, 0, []⟩] [] [] [] := by
    refine ⟨h2.ext fun a p q => Hp.new hB.none q, ⟨rfl, rfl, fun t ht => ?_, fun r hr => nomatch hr⟩, ⟨Hp.self, .nil⟩, hN.keep (fun q => e3 _ _ q) (fun q => e3 _ _ q), fun t ht => ?_, fun r hr => nomatch hr⟩
    · rw [List.mem_singleton.mp ht]; exact ⟨rfl, (fun x hx => nomatch hx), rfl⟩
    · rw [List.mem_singleton.mp ht]; exact Nat.lt_succ_self _
  have hs3 := e3 _ _ hs1
  generalize σ2.put B 6 (.list []) = σ3 at d3 hs3 ⊢
  clear hs1 e3 e2 h2 hN hB
  with_reducible refine WSt.localA (by kernel_rfl) ?_
  with_reducible refine WSs.cons ?_
  with_reducible refine WS.for rfl (by with_unfolding_all (first | exact fun _ _ => rfl | exact fun _ _ _ => rfl)) ?_
  refine WE.sliceBoth 9 ?_
  with_reducible refine WE.localA (by kernel_rfl) (by kernel_rfl) (by walk_at "lk") ?_
  with_reducible refine WE.int ?_
  with_reducible refine WE.int ?_
  refine ⟨l0, _, 1, 50, rfl, rfl, rfl, by decide, ListAt.k hs3, by rw [List.length_map]; omega, fun C hC => ?_⟩
  refine ⟨_, _, Iterable.list (ListAt.own Hp.self), ?_⟩
  have l50 : (((ns.map MV.int).take 50).drop 1).length ≤ 63 := by rw [List.length_drop, List.length_take, List.length_map]; omega
  have cells : ∀ (i : Nat) v, (((ns.map MV.int).take 50).drop 1)[i]? = some v → ∃ c : Int, v = .int c := fun i v hv => by
    obtain ⟨c, _, e⟩ := List.mem_map.mp (List.mem_of_mem_take (List.mem_of_mem_drop (List.mem_of_getElem? hv)))
    exact ⟨c, e.symm⟩
  have d4 := d3.ext (σ' := σ3.put C 9 (.list (((ns.map MV.int).take 50).drop 1))) fun a p q => Hp.new hC.none q
  have hC4 : (σ3.put C 9 (.list (((ns.map MV.int).take 50).drop 1))) C = some (9, .list (((ns.map MV.int).take 50).drop 1)) := Hp.self
  generalize σ3.put C 9 (.list (((ns.map MV.int).take 50).drop 1)) = σ4 at d4 hC4 ⊢
  generalize ((ns.map MV.int).take 50).drop 1 = items at hC4 cells l50 ⊢
  clear d3 hs3 hC hz
  refine WFor.byIdxO (fun i ρ' σ' => (∃ B tm ab R ts, Rd9 σ' H dw da B N (101 + i) gs b1 b2 o tm ab R ts ∧ R.length ≤ i ∧ ρ' "_law_rows" = some (.ref B)) ∧ σ' C = some (9, .list items) ∧ ρ' "_law_names" = some (.ref N) ∧ ρ' "_law_house" = some (.ref H) ∧ ρ' (".0" : Str) = Option.none) ?_ ?_ ?_
  · exact ⟨⟨B, _, _, _, _, d4, Nat.zero_le _, by walk_at "lk"⟩, hC4, by walk_at "lk", by walk_at "lk", by ((repeat (first | (with_reducible assumption) | (with_reducible refine Lo.put_ne (by kernel_rfl) ?_))))⟩
  · clear d4 hC4 r0 r1 rd
    rintro i v ρ' σ5 hv ⟨⟨B, tm, ab, R, ts, dd, hRi, rr⟩, hC5, r1, r2, rd⟩
    obtain ⟨cell, rfl⟩ := cells i v hv
    have il : i < 63 := Nat.lt_of_lt_of_le (List.getElem?_eq_some_iff.mp hv).1 l50
    refine ⟨ListAt.own hC5, ?_⟩
    intro KL hKL
    have tl : ts.length = R.length := dd.rows.row.length
    have hB5 := dd.rows.lst
    have hN5 := dd.nms.lst
    have gl := dd.nms.len
    have el : ((ts.map MV.ref).length : Int) = (R.length : Int) := by rw [List.length_map, tl]
    with_reducible refine WSt.localA (by kernel_rfl) ?_
    with_reducible refine WSs.cons ?_
    with_reducible refine WS.assign (by with_unfolding_all (first | exact fun _ _ => rfl | exact fun _ _ _ => rfl)) ?_
    with_reducible refine WE.binop ?_
    with_reducible refine WE.localA (by kernel_rfl) (by kernel_rfl) (by walk_at "lk") ?_
    with_reducible refine WE.int ?_
    with_reducible refine WB.mod (by walk_at "ar") ?_
    with_reducible refine WSt.localA (by kernel_rfl) ?_
    with_reducible refine WSs.cons ?_
    with_reducible refine WS.assign (by with_unfolding_all (first | exact fun _ _ => rfl | exact fun _ _ _ => rfl)) ?_
    with_reducible refine WE.binop ?_
    with_reducible refine WE.binop ?_
    with_reducible refine WE.binop ?_
    with_reducible refine WE.localA (by kernel_rfl) (by kernel_rfl) (by walk_at "lk") ?_
    with_reducible refine WE.int ?_
    with_reducible refine WB.mul (IntMulOk.of_right (by decide)) ?_
    with_reducible refine WE.binop ?_
    with_reducible refine WE.int ?_
    with_reducible refine WE.call rfl rfl ?_
    with_reducible refine WE.globalA (by kernel_rfl) g_len ?_
    with_reducible refine And.intro (Callee.con rfl) ?_
    with_reducible refine WEs.cons rfl ?_
    with_reducible refine WE.localA (by kernel_rfl) (by kernel_rfl) (by walk_at "lk") ?_
    with_reducible refine WEs.nil ?_
    refine WCall.lenList (ListAt.own hB5) (by rw [List.length_map]; omega) ?_
    rw [el]
    with_reducible refine WB.mul (IntMulOk.of_left (by decide)) ?_
    with_reducible refine WB.add ?_
    with_reducible refine WE.int ?_
    with_reducible refine WB.mod (by walk_at "ar") ?_
    with_reducible refine WSt.localA (by kernel_rfl) ?_
    with_reducible refine WSs.cons ?_
    with_reducible refine WS.assign (by with_unfolding_all (first | exact fun _ _ => rfl | exact fun _ _ _ => rfl)) ?_
    with_reducible refine WE.sub ?_
    with_reducible refine WE.localA (by kernel_rfl) (by kernel_rfl) (by walk_at "lk") ?_
    with_reducible refine WE.binop ?_
    with_reducible refine WE.localA (by kernel_rfl) (by kernel_rfl) (by walk_at "lk") ?_
    with_reducible refine WE.int ?_
    with_reducible refine WB.mod (by walk_at "ar") ?_
    generalize (cell * 48271 + 7919 * (R.length : Int)).fmod 1000003 = mixed
    have i0 := fmod_ge mixed (show (1 : Int) ≤ 9 by decide)
    have i9 := fmod_lt mixed (show (1 : Int) ≤ 9 by decide)
    have i63 : mixed.fmod 9 < 2 ^ 63 := by omega
    obtain ⟨v, hv9, nv⟩ := name_at dd.nms i0 i9
    with_reducible refine WSub.list (by with_unfolding_all (first | exact fun _ _ => rfl | exact fun _ _ _ => rfl)) (by first | with_reducible assumption | ((with_reducible apply ListAt.own); walk_at "hp") | ((with_reducible apply ListAt.k); walk_at "hp")) (by walk_at "ar") (by walk_at "ar") (by with_reducible assumption) ?_
    with_reducible refine WSt.cellA (by kernel_rfl) ?_
    with_reducible refine WSs.cons ?_
    with_reducible refine WS.assign (by with_unfolding_all (first | exact fun _ _ => rfl | exact fun _ _ _ => rfl)) ?_
    with_reducible refine WE.sub ?_
    with_reducible refine WE.binop ?_
    refine WE.list 9 ?_
    with_reducible refine WEs.cons rfl ?_
    with_reducible refine WE.str ?_
    with_reducible refine WEs.cons rfl ?_
    with_reducible refine WE.str ?_
    with_reducible refine WEs.cons rfl ?_
    with_reducible refine WE.str ?_
    with_reducible refine WEs.nil ?_
    refine ⟨by simp, fun E hE => ?_⟩
    with_reducible refine WE.localA (by kernel_rfl) (by kernel_rfl) (by walk_at "lk") ?_
    refine WB.addL 9 (ListAt.own Hp.self) (ListAt.own (Hp.new hE.none hN5)) (by simp; omega) fun F hF => ?_
    have a0 := fmod_ge (mixed.fdiv 9) (show (1 : Int) ≤ 12 by decide)
    have a12 := fmod_lt (mixed.fdiv 9) (show (1 : Int) ≤ 12 by decide)
    have a63 : (mixed.fdiv 9).fmod 12 < 2 ^ 63 := by omega
    obtain ⟨u, hu12, nu⟩ := above_at dd.nms a0 a12
    have hF6 : ((σ5.put E 9 (.list [.str "", .str "", .str ""])).put F 9 (.list ([MV.str "", MV.str "", MV.str ""] ++ (gs.map MV.str ++ [.str "", .str b1, .str b2, o])))) F = some (9, .list ([MV.str "", MV.str "", MV.str ""] ++ (gs.map MV.str ++ [.str "", .str b1, .str b2, o]))) := Hp.self
    have e6 : Extd σ5 ((σ5.put E 9 (.list [.str "", .str "", .str ""])).put F 9 (.list ([MV.str "", MV.str "", MV.str ""] ++ (gs.map MV.str ++ [.str "", .str b1, .str b2, o])))) := fun a p q => Hp.new hF.none (Hp.new hE.none q)
    generalize (σ5.put E 9 (.list [.str "", .str "", .str ""])).put F 9 (.list ([MV.str "", MV.str "", MV.str ""] ++ (gs.map MV.str ++ [.str "", .str b1, .str b2, o]))) = σ6 at hF6 e6 ⊢
    clear hE hF
    with_reducible refine WE.binop ?_
    with_reducible refine WE.binop ?_
    with_reducible refine WE.localA (by kernel_rfl) (by kernel_rfl) (by walk_at "lk") ?_
    with_reducible refine WE.int ?_
    with_reducible refine WB.div (by walk_at "ar") (by walk_at "ar") ?_
    with_reducible refine WE.int ?_
    with_reducible refine WB.mod (by walk_at "ar") ?_
    with_reducible refine WSub.list (by with_unfolding_all (first | exact fun _ _ => rfl | exact fun _ _ _ => rfl)) (by first | with_reducible assumption | ((with_reducible apply ListAt.own); walk_at "hp") | ((with_reducible apply ListAt.k); walk_at "hp")) (by walk_at "ar") (by walk_at "ar") (by with_reducible assumption) ?_
    with_reducible refine WSt.localA (by kernel_rfl) ?_
    with_reducible refine WSs.cons ?_
    with_reducible refine WS.assign (by with_unfolding_all (first | exact fun _ _ => rfl | exact fun _ _ _ => rfl)) ?_
    with_reducible refine WE.sub ?_
    with_reducible refine WE.binop ?_
    refine WE.compA 9 rfl (by with_unfolding_all (first | exact fun _ _ => rfl | exact fun _ _ _ => rfl)) (by kernel_rfl) (by ((repeat (first | (with_reducible assumption) | (with_reducible refine Lo.put_ne (by kernel_rfl) ?_))))) ?_
    with_reducible refine WE.call rfl rfl ?_
    with_reducible refine WE.globalA (by kernel_rfl) g_range ?_
    with_reducible refine And.intro (Callee.con rfl) ?_
    with_reducible refine WEs.cons rfl ?_
    with_reducible refine WE.int ?_
    with_reducible refine WEs.nil ?_
    refine WCall.range1 9 fun b hb => ?_
    refine ⟨_, _, itR Hp.self (by decide) (by decide), upTo_le (by decide), ?_⟩
    refine WComp.upTo (fun k => .int (k : Int)) (fun k hk K hK => ?_) fun D hD => ?_
    · skip
      with_reducible refine WE.localA (by kernel_rfl) (by kernel_rfl) (by walk_at "lk") ?_
      exact hK
    skip
    refine WE.list 9 ?_
    with_reducible refine WEs.cons rfl ?_
    with_reducible refine WE.bool ?_
    with_reducible refine WEs.cons rfl ?_
    with_reducible refine WE.str ?_
    with_reducible refine WEs.cons rfl ?_
    with_reducible refine WE.none ?_
    with_reducible refine WEs.cons rfl ?_
    with_reducible refine WE.binop ?_
    with_reducible refine WE.int ?_
    with_reducible refine WE.int ?_
    refine WB.pow (by decide) (by decide) (by decide) ?_
    with_reducible refine WEs.cons rfl ?_
    refine WE.list 9 ?_
    with_reducible refine WEs.cons rfl ?_
    with_reducible refine WE.int ?_
    with_reducible refine WEs.nil ?_
    refine ⟨by simp, fun A hA => ?_⟩
    with_reducible refine WEs.nil ?_
    refine ⟨by simp, fun L hL => ?_⟩
    refine WB.addL 9 (ListAt.own (Hp.new hL.none (Hp.new hA.none Hp.self))) (ListAt.own Hp.self) (by simp [tabl]) fun S hS => ?_
    have s0 := fmod_ge (mixed.fdiv 108) (show (1 : Int) ≤ 19 by decide)
    have s19 := fmod_lt (mixed.fdiv 108) (show (1 : Int) ≤ 19 by decide)
    have s63 : (mixed.fdiv 108).fmod 19 < 2 ^ 63 := by omega
    have e7 : Extd σ6 (((((σ6.put b 9 (.range 0 14)).put D 9 (.list (tabl 14 (fun k : Nat => MV.int (k : Int))))).put A 9 (.list [.int 3])).put L 9 (.list [MV.bool true, MV.str "3", MV.none, MV.int ((10 : Int) ^ (Int.toNat 20)), MV.ref A])).put S 9 (.list (tabl 14 (fun k : Nat => MV.int (k : Int)) ++ [MV.bool true, MV.str "3", MV.none, MV.int ((10 : Int) ^ (Int.toNat 20)), MV.ref A]))) := fun a p q => Hp.new hS.none (Hp.new hL.none (Hp.new hA.none (Hp.new hD (Hp.new hb.none q))))
    have hA7 : (((((σ6.put b 9 (.range 0 14)).put D 9 (.list (tabl 14 (fun k : Nat => MV.int (k : Int))))).put A 9 (.list [.int 3])).put L 9 (.list [MV.bool true, MV.str "3", MV.none, MV.int ((10 : Int) ^ (Int.toNat 20)), MV.ref A])).put S 9 (.list (tabl 14 (fun k : Nat => MV.int (k : Int)) ++ [MV.bool true, MV.str "3", MV.none, MV.int ((10 : Int) ^ (Int.toNat 20)), MV.ref A]))) A = some (9, .list [.int 3]) := Hp.new hS.none (Hp.new hL.none Hp.self)
    have hS7 : (((((σ6.put b 9 (.range 0 14)).put D 9 (.list (tabl 14 (fun k : Nat => MV.int (k : Int))))).put A 9 (.list [.int 3])).put L 9 (.list [MV.bool true, MV.str "3", MV.none, MV.int ((10 : Int) ^ (Int.toNat 20)), MV.ref A])).put S 9 (.list (tabl 14 (fun k : Nat => MV.int (k : Int)) ++ [MV.bool true, MV.str "3", MV.none, MV.int ((10 : Int) ^ (Int.toNat 20)), MV.ref A]))) S = some (9, .list (tabl 14 (fun k : Nat => MV.int (k : Int)) ++ [MV.bool true, MV.str "3", MV.none, MV.int ((10 : Int) ^ (Int.toNat 20)), MV.ref A])) := Hp.self
    generalize ((((σ6.put b 9 (.range 0 14)).put D 9 (.list (tabl 14 (fun k : Nat => MV.int (k : Int))))).put A 9 (.list [.int 3])).put L 9 (.list [MV.bool true, MV.str "3", MV.none, MV.int ((10 : Int) ^ (Int.toNat 20)), MV.ref A])).put S 9 (.list (tabl 14 (fun k : Nat => MV.int (k : Int)) ++ [MV.bool true, MV.str "3", MV.none, MV.int ((10 : Int) ^ (Int.toNat 20)), MV.ref A])) = σ7 at e7 hA7 hS7 ⊢
    obtain ⟨sv, hsv, sok⟩ := share_at hA7 s0 s19
    have e57 : Extd σ5 σ7 := fun a p q => e7 _ _ (e6 _ _ q)
    have dd7 := dd.ext e57
    have hC7 := e57 _ _ hC5
    have nv7 := nv.keep (σ' := σ7) fun q => e57 _ _ q
    have nu7 := nu.keep (σ' := σ7) fun q => e57 _ _ q
    have hB7 := dd7.rows.lst
    clear dd hC5 nv nu e57 e7 e6 hF6 hA hL hS hD hb hB5 hN5
    with_reducible refine WE.binop ?_
    with_reducible refine WE.binop ?_
    with_reducible refine WE.localA (by kernel_rfl) (by kernel_rfl) (by walk_at "lk") ?_
    with_reducible refine WE.int ?_
    with_reducible refine WB.div (by walk_at "ar") (by walk_at "ar") ?_
    with_reducible refine WE.int ?_
    with_reducible refine WB.mod (by walk_at "ar") ?_
    with_reducible refine WSub.list (by with_unfolding_all (first | exact fun _ _ => rfl | exact fun _ _ _ => rfl)) (by first | with_reducible assumption | ((with_reducible apply ListAt.own); walk_at "hp") | ((with_reducible apply ListAt.k); walk_at "hp")) (by walk_at "ar") (by walk_at "ar") (by with_reducible assumption) ?_
    with_reducible refine WSt.cellA (by kernel_rfl) ?_
    with_reducible refine WSs.cons ?_
    refine WS.assignCompA 9 rfl (by with_unfolding_all (first | exact fun _ _ => rfl | exact fun _ _ _ => rfl)) (by kernel_rfl) (by ((repeat (first | (with_reducible assumption) | (with_reducible refine Lo.put_ne (by kernel_rfl) ?_))))) (by kernel_rfl) (by kernel_rfl) ?_
    with_reducible refine WE.localA (by kernel_rfl) (by kernel_rfl) (by walk_at "lk") ?_
    refine ⟨_, _, Iterable.list (ListAt.own hB7), by rw [List.length_map]; omega, ?_⟩
    refine tmap9 dd7.rows (fun u' r e K hK => ?_) (fun u' r e K hK => ?_) fun T hT => ?_
    · have z3 : [MV.str r.name, .str r.up, .int r.share, .bool r.team][Int.toNat 3]? = some (.bool r.team) := rfl
      with_reducible refine WT.plain (by with_unfolding_all (first | exact fun _ _ => rfl | exact fun _ _ _ => rfl)) ?_
      with_reducible refine WE.sub ?_
      with_reducible refine WE.localA (by kernel_rfl) (by kernel_rfl) (by walk_at "lk") ?_
      with_reducible refine WE.int ?_
      with_reducible refine WSub.list (by with_unfolding_all (first | exact fun _ _ => rfl | exact fun _ _ _ => rfl)) (by first | with_reducible assumption | ((with_reducible apply ListAt.own); walk_at "hp") | ((with_reducible apply ListAt.k); walk_at "hp")) (by walk_at "ar") (by walk_at "ar") (by with_reducible assumption) ?_
      with_reducible refine WTr.bool ?_
      exact hK
    · have z0 : [MV.str r.name, .str r.up, .int r.share, .bool r.team][Int.toNat 0]? = some (.str r.name) := rfl
      with_reducible refine WE.sub ?_
      with_reducible refine WE.localA (by kernel_rfl) (by kernel_rfl) (by walk_at "lk") ?_
      with_reducible refine WE.int ?_
      with_reducible refine WSub.list (by with_unfolding_all (first | exact fun _ _ => rfl | exact fun _ _ _ => rfl)) (by first | with_reducible assumption | ((with_reducible apply ListAt.own); walk_at "hp") | ((with_reducible apply ListAt.k); walk_at "hp")) (by walk_at "ar") (by walk_at "ar") (by with_reducible assumption) ?_
      exact hK
    have hT8 : (σ7.put T 9 (.list (((R.filter (·.team)).map (·.name)).map .str))) T = some (9, .list (((R.filter (·.team)).map (·.name)).map .str)) := Hp.self
    have e8 : Extd σ7 (σ7.put T 9 (.list (((R.filter (·.team)).map (·.name)).map .str))) := fun a p q => Hp.new hT q
    have tmem : ∀ x ∈ (R.filter (·.team)).map (·.name), x ∈ gs := fun x hx => by
      obtain ⟨r, hr, e⟩ := List.mem_map.mp hx
      rw [← e]; exact dd7.rn r (List.mem_filter.mp hr).1
    have tlen : ((R.filter (·.team)).map (·.name)).length ≤ 1000 := by
      rw [List.length_map]
      exact Nat.le_trans (List.length_filter_le _ _) (by omega)
    generalize (R.filter (·.team)).map (·.name) = tn at hT8 e8 tmem tlen ⊢
    generalize σ7.put T 9 (.list (tn.map .str)) = σ8 at hT8 e8 ⊢
    have dd8 := dd7.ext e8
    have hC8 := e8 _ _ hC7
    have nv8 := nv7.keep (σ' := σ8) fun q => e8 _ _ q
    have nu8 := nu7.keep (σ' := σ8) fun q => e8 _ _ q
    have sok8 := sok.ext e8
    clear dd7 hC7 nv7 nu7 sok hB7 hT e8 hA7 hS7
    refine WSs.splitO (fun ρ1 σ1 => Extd σ8 σ1 ∧ (∃ v u, Nm9 gs σ1 v ∧ Nm9 gs σ1 u ∧ ρ1 "_law_name" = some v ∧ ρ1 "_law_above" = some u) ∧ ρ1 "_law_kind" = some (.int (cell.fmod 5)) ∧ ρ1 "_law_share" = some sv ∧ ρ1 "_law_rows" = some (.ref B) ∧ ρ1 "_law_names" = some (.ref N) ∧ ρ1 "_law_house" = some (.ref H) ∧ ρ1 (".0" : Str) = Option.none) ?_ ?_
    · intro KS hKS
      by_cases c1 : tn = []
      · subst c1
        with_reducible refine WS.ite ?_
        with_reducible refine WT.bool ?_
        with_reducible refine WA.and ?_
        with_reducible refine WT.cmp1 rfl ?_
        with_reducible refine WE.localA (by kernel_rfl) (by kernel_rfl) (by walk_at "lk") ?_
        refine WE.list 9 ?_
        with_reducible refine WEs.nil ?_
        refine ⟨by simp, fun E hE => ?_⟩
        refine WC.ne (Nat.succ_le_succ (Nat.zero_le _)) (by decide) (RnV.listT (k := 1) (ListAt.own (Hp.new hE.none hT8)) (ListAt.own Hp.self) .nil) ?_
        with_reducible refine WTr.bool ?_
        with_reducible refine if_ff ?_
        with_reducible refine if_ff ?_
        with_reducible refine WSs.nil ?_
        exact hKS _ _ ⟨fun a p q => Hp.new hE.none q, ⟨v, u, nv8.keep fun q => Hp.new hE.none q, nu8.keep fun q => Hp.new hE.none q, by walk_at "lk", by walk_at "lk"⟩, by walk_at "lk", by walk_at "lk", by walk_at "lk", by walk_at "lk", by walk_at "lk", by ((repeat (first | (with_reducible assumption) | (with_reducible refine Lo.put_ne (by kernel_rfl) ?_))))⟩
      · have tpos : 0 < tn.length := List.length_pos_iff.mpr c1
        with_reducible refine WS.ite ?_
        with_reducible refine WT.bool ?_
        with_reducible refine WA.and ?_
        with_reducible refine WT.cmp1 rfl ?_
        with_reducible refine WE.localA (by kernel_rfl) (by kernel_rfl) (by walk_at "lk") ?_
        refine WE.list 9 ?_
        with_reducible refine WEs.nil ?_
        refine ⟨by simp, fun E hE => ?_⟩
        refine WC.ne (Nat.succ_le_succ (Nat.zero_le _)) (by decide) (RnV.listF (ListAt.own (Hp.new hE.none hT8)) (ListAt.own Hp.self) (by rw [List.length_map]; simp; exact c1)) ?_
        have hT9 : (σ8.put E 9 (.list [])) T = _ := Hp.new hE.none hT8
        have e9 : Extd σ8 (σ8.put E 9 (.list [])) := fun a p q => Hp.new hE.none q
        generalize σ8.put E 9 (.list []) = σ9 at hT9 e9 ⊢
        have nv9 := nv8.keep (σ' := σ9) fun q => e9 _ _ q
        have nu9 := nu8.keep (σ' := σ9) fun q => e9 _ _ q
        clear hE
        by_cases c2 : (mixed.fdiv 2052).fmod 2 = 1
        · have hx0 : tn[tn.length - 1]? = some (tn[tn.length - 1]'(by omega)) := List.getElem?_eq_getElem (by omega)
          have hxg := tmem _ (List.mem_of_getElem? hx0)
          generalize (tn[tn.length - 1]'(by omega)) = x at hx0 hxg
          have tnl : ((tn.map MV.str).length : Int) = (tn.length : Int) := by rw [List.length_map]
          with_reducible refine WTr.bool ?_
          with_reducible refine if_tt ?_
          with_reducible refine WA.and ?_
          with_reducible refine WT.cmp1 rfl ?_
          with_reducible refine WE.binop ?_
          with_reducible refine WE.binop ?_
          with_reducible refine WE.localA (by kernel_rfl) (by kernel_rfl) (by walk_at "lk") ?_
          with_reducible refine WE.int ?_
          with_reducible refine WB.div (by walk_at "ar") (by walk_at "ar") ?_
          with_reducible refine WE.int ?_
          with_reducible refine WB.mod (by walk_at "ar") ?_
          with_reducible refine WE.int ?_
          with_reducible refine WC.eqI ?_
          with_reducible refine WTr.bool ?_
          with_reducible refine if_et (by with_reducible assumption) ?_
          with_reducible refine WA.and_nil ?_
          with_reducible refine if_tt ?_
          with_reducible refine WSs.cons ?_
          with_reducible refine WS.assign (by with_unfolding_all (first | exact fun _ _ => rfl | exact fun _ _ _ => rfl)) ?_
          with_reducible refine WE.sub ?_
          with_reducible refine WE.localA (by kernel_rfl) (by kernel_rfl) (by walk_at "lk") ?_
          with_reducible refine WE.unary ?_
          with_reducible refine WE.int ?_
          with_reducible refine WU.neg ?_
          refine WSub.listNeg (by with_unfolding_all (first | exact fun _ _ => rfl | exact fun _ _ _ => rfl)) (ListAt.own hT9) (by decide) (by rw [tnl]; omega) (by decide) (v := .str x) (by
            have : ((-1 : Int) + ((tn.map MV.str).length : Int)).toNat = tn.length - 1 := by rw [tnl]; omega
            rw [this, List.getElem?_map, hx0]; rfl) ?_
          by_cases c3 : cell.fmod 5 = 2
          · skip
            with_reducible refine WSt.localA (by kernel_rfl) ?_
            with_reducible refine WSs.cons ?_
            with_reducible refine WS.assign (by with_unfolding_all (first | exact fun _ _ => rfl | exact fun _ _ _ => rfl)) ?_
            with_reducible refine WE.ifexp ?_
            with_reducible refine WT.cmp1 rfl ?_
            with_reducible refine WE.localA (by kernel_rfl) (by kernel_rfl) (by walk_at "lk") ?_
            with_reducible refine WE.int ?_
            with_reducible refine WC.eqI ?_
            with_reducible refine WTr.bool ?_
            with_reducible refine if_et (by with_reducible assumption) ?_
            with_reducible refine WE.localA (by kernel_rfl) (by kernel_rfl) (by walk_at "lk") ?_
            with_reducible refine WSt.cellA (by kernel_rfl) ?_
            with_reducible refine WSs.nil ?_
            exact hKS _ _ ⟨e9, ⟨.str x, .str x, .good hxg, .good hxg, by walk_at "lk", by walk_at "lk"⟩, by walk_at "lk", by walk_at "lk", by walk_at "lk", by walk_at "lk", by walk_at "lk", by ((repeat (first | (with_reducible assumption) | (with_reducible refine Lo.put_ne (by kernel_rfl) ?_))))⟩
          · have b3 : (cell.fmod 5 == 2) = false := beq_eq_false_iff_ne.mpr c3
            with_reducible refine WSt.localA (by kernel_rfl) ?_
            with_reducible refine WSs.cons ?_
            with_reducible refine WS.assign (by with_unfolding_all (first | exact fun _ _ => rfl | exact fun _ _ _ => rfl)) ?_
            with_reducible refine WE.ifexp ?_
            with_reducible refine WT.cmp1 rfl ?_
            with_reducible refine WE.localA (by kernel_rfl) (by kernel_rfl) (by walk_at "lk") ?_
            with_reducible refine WE.int ?_
            with_reducible refine WC.eqI ?_
            with_reducible refine WTr.bool ?_
            with_reducible refine if_pf (by with_reducible assumption) ?_
            with_reducible refine WE.cellA (by kernel_rfl) (by kernel_rfl) (by walk_at "lk") ?_
            with_reducible refine WSt.cellA (by kernel_rfl) ?_
            with_reducible refine WSs.nil ?_
            exact hKS _ _ ⟨e9, ⟨v, .str x, nv9, .good hxg, by walk_at "lk", by walk_at "lk"⟩, by walk_at "lk", by walk_at "lk", by walk_at "lk", by walk_at "lk", by walk_at "lk", by ((repeat (first | (with_reducible assumption) | (with_reducible refine Lo.put_ne (by kernel_rfl) ?_))))⟩
        · have b2 : ((mixed.fdiv 2052).fmod 2 == 1) = false := beq_eq_false_iff_ne.mpr c2
          with_reducible refine WTr.bool ?_
          with_reducible refine if_tt ?_
          with_reducible refine WA.and ?_
          with_reducible refine WT.cmp1 rfl ?_
          with_reducible refine WE.binop ?_
          with_reducible refine WE.binop ?_
          with_reducible refine WE.localA (by kernel_rfl) (by kernel_rfl) (by walk_at "lk") ?_
          with_reducible refine WE.int ?_
          with_reducible refine WB.div (by walk_at "ar") (by walk_at "ar") ?_
          with_reducible refine WE.int ?_
          with_reducible refine WB.mod (by walk_at "ar") ?_
          with_reducible refine WE.int ?_
          with_reducible refine WC.eqI ?_
          with_reducible refine WTr.bool ?_
          with_reducible refine if_pf (by with_reducible assumption) ?_
          with_reducible refine if_ff ?_
          with_reducible refine WSs.nil ?_
          exact hKS _ _ ⟨e9, ⟨v, u, nv9, nu9, by walk_at "lk", by walk_at "lk"⟩, by walk_at "lk", by walk_at "lk", by walk_at "lk", by walk_at "lk", by walk_at "lk", by ((repeat (first | (with_reducible assumption) | (with_reducible refine Lo.put_ne (by kernel_rfl) ?_))))⟩
    clear nv8 nu8 hv9 hu12 tmem tlen hT8
    clear v u
    clear rr r1 r2 rd
    rintro ρ1 σ9 ⟨e9, ⟨v, u, nv, nu, qn, qa⟩, qk, qs, rr, r1, r2, rd⟩
    have dd := dd8.ext e9
    have hC := e9 _ _ hC8
    have sok := sok8.ext e9
    clear dd8 hC8 sok8 e9
    have k0 := fmod_ge cell (show (1 : Int) ≤ 5 by decide)
    refine WSs.splitO (fun ρ2 σ' => (∃ B tm ab R ts, Rd9 σ' H dw da B N (101 + (i + 1)) gs b1 b2 o tm ab R ts ∧ R.length ≤ i + 1 ∧ ρ2 "_law_rows" = some (.ref B)) ∧ Nm9 gs σ' v ∧ Nm9 gs σ' u ∧ σ' C = some (9, .list items) ∧ ρ2 "_law_name" = some v ∧ ρ2 "_law_above" = some u ∧ ρ2 "_law_names" = some (.ref N) ∧ ρ2 "_law_house" = some (.ref H) ∧ ρ2 (".0" : Str) = Option.none) ?_ ?_
    · intro KS hKS
      generalize cell.fmod 5 = kind at qk k0
      by_cases c4 : kind < 4
      · skip
        with_reducible refine WS.ite ?_
        with_reducible refine WT.cmp1 rfl ?_
        with_reducible refine WE.localA (by kernel_rfl) (by kernel_rfl) (by walk_at "lk") ?_
        with_reducible refine WE.int ?_
        with_reducible refine WC.lt ?_
        with_reducible refine WTr.bool ?_
        with_reducible refine if_dt (by with_reducible assumption) ?_
        with_reducible refine WSs.cons ?_
        with_reducible refine WS.assign (by with_unfolding_all (first | exact fun _ _ => rfl | exact fun _ _ _ => rfl)) ?_
        with_reducible refine WE.call rfl rfl ?_
        with_reducible refine WE.globalA (by kernel_rfl) g_law_due ?_
        with_reducible refine And.intro (Callee.fn fn_law_due) ?_
        with_reducible refine WEs.cons rfl ?_
        with_reducible refine WE.localA (by kernel_rfl) (by kernel_rfl) (by walk_at "lk") ?_
        with_reducible refine WEs.cons rfl ?_
        with_reducible refine WE.localA (by kernel_rfl) (by kernel_rfl) (by walk_at "lk") ?_
        with_reducible refine WEs.cons rfl ?_
        with_reducible refine WE.localA (by kernel_rfl) (by kernel_rfl) (by walk_at "lk") ?_
        with_reducible refine WEs.cons rfl ?_
        with_reducible refine WE.cellA (by kernel_rfl) (by kernel_rfl) (by walk_at "lk") ?_
        with_reducible refine WEs.cons rfl ?_
        with_reducible refine WE.localA (by kernel_rfl) (by kernel_rfl) (by walk_at "lk") ?_
        with_reducible refine WEs.cons rfl ?_
        with_reducible refine WE.cellA (by kernel_rfl) (by kernel_rfl) (by walk_at "lk") ?_
        with_reducible refine WEs.nil ?_
        refine WCall.of_fn (due_c dd.rows (by omega) dd.nms nv.nam nu.nam sok fun σ10 e10 => ?_)
        have dd := dd.ext e10
        have hC := e10 _ _ hC
        have nv := nv.keep (σ' := σ10) fun q => e10 _ _ q
        have nu := nu.keep (σ' := σ10) fun q => e10 _ _ q
        with_reducible refine WSt.localA (by kernel_rfl) ?_
        with_reducible refine WSs.cons ?_
        with_reducible refine WS.ite ?_
        with_reducible refine WT.cmp1 rfl ?_
        with_reducible refine WE.call rfl rfl ?_
        with_reducible refine WE.globalA (by kernel_rfl) g_law_done ?_
        with_reducible refine And.intro (Callee.fn fn_law_done) ?_
        with_reducible refine WEs.cons rfl ?_
        with_reducible refine WE.localA (by kernel_rfl) (by kernel_rfl) (by walk_at "lk") ?_
        with_reducible refine WEs.cons rfl ?_
        with_reducible refine WE.localA (by kernel_rfl) (by kernel_rfl) (by walk_at "lk") ?_
        with_reducible refine WEs.cons rfl ?_
        with_reducible refine WE.cellA (by kernel_rfl) (by kernel_rfl) (by walk_at "lk") ?_
        with_reducible refine WEs.cons rfl ?_
        with_reducible refine WE.localA (by kernel_rfl) (by kernel_rfl) (by walk_at "lk") ?_
        with_reducible refine WEs.cons rfl ?_
        with_reducible refine WE.cellA (by kernel_rfl) (by kernel_rfl) (by walk_at "lk") ?_
        with_reducible refine WEs.nil ?_
        refine WCall.of_fn (done_c (g := 101 + i) dd.h dd.rel dd.nms.ok (by omega) (by omega) dd.gk nv nu.nam (sok.ext e10) k0 fun tm' ab' R' σ11 h' rel' gk' kp nx => ?_)
        have hC := kp _ _ _ hC (by decide) (by decide)
        have nv := nv.keep (σ' := σ11) fun q => kp _ _ _ q (by decide) (by decide)
        have nu := nu.keep (σ' := σ11) fun q => kp _ _ _ q (by decide) (by decide)
        have hR := dd.rows.keep (σ' := σ11) (fun q => kp _ _ _ q (by decide) (by decide)) (fun q => kp _ _ _ q (by decide) (by decide))
        have nms := dd.nms.keep (σ' := σ11) (fun q => kp _ _ _ q (by decide) (by decide)) (fun q => kp _ _ _ q (by decide) (by decide))
        generalize dueV R gs kind v u sv = dv at nx ⊢
        cases nx with
        | @no s =>
          have bs : (s != s) = false := bne_self_eq_false ..
          with_reducible refine WE.localA (by kernel_rfl) (by kernel_rfl) (by walk_at "lk") ?_
          with_reducible refine WC.neS ?_
          with_reducible refine WTr.bool ?_
          with_reducible refine if_pf (by with_reducible assumption) ?_
          with_reducible refine WSs.nil ?_
          with_reducible refine WSs.cons ?_
          with_reducible refine WS.ite ?_
          with_reducible refine WT.bool ?_
          with_reducible refine WA.and ?_
          with_reducible refine WT.cmp1 rfl ?_
          with_reducible refine WE.localA (by kernel_rfl) (by kernel_rfl) (by walk_at "lk") ?_
          with_reducible refine WE.none ?_
          with_reducible refine WC.isNS ?_
          with_reducible refine WTr.bool ?_
          with_reducible refine if_ff ?_
          with_reducible refine if_ff ?_
          with_reducible refine WSs.cons ?_
          with_reducible refine WS.ite ?_
          with_reducible refine WT.bool ?_
          with_reducible refine WA.and ?_
          with_reducible refine WT.cmp1 rfl ?_
          with_reducible refine WE.localA (by kernel_rfl) (by kernel_rfl) (by walk_at "lk") ?_
          with_reducible refine WE.none ?_
          with_reducible refine WC.isNS ?_
          with_reducible refine WTr.bool ?_
          with_reducible refine if_ff ?_
          with_reducible refine if_ff ?_
          with_reducible refine WSs.cons ?_
          with_reducible refine WS.ite ?_
          with_reducible refine WT.cmp1 rfl ?_
          with_reducible refine WE.localA (by kernel_rfl) (by kernel_rfl) (by walk_at "lk") ?_
          with_reducible refine WE.none ?_
          with_reducible refine WC.isNS ?_
          with_reducible refine WTr.bool ?_
          with_reducible refine if_ff ?_
          with_reducible refine WSs.nil ?_
          with_reducible refine WSs.nil ?_
          with_reducible refine WSs.nil ?_
          with_reducible refine WSs.nil ?_
          exact hKS _ _ ⟨⟨B, tm', ab', R, ts, ⟨h', rel', hR, nms, gk', dd.rn⟩, by omega, by walk_at "lk"⟩, nv, nu, hC, by walk_at "lk", by walk_at "lk", by walk_at "lk", by walk_at "lk", by ((repeat (first | (with_reducible assumption) | (with_reducible refine Lo.put_ne (by kernel_rfl) ?_))))⟩
        | @come x y k ev eu es k2 hxg =>
          subst ev; subst eu; subst es
          have hB := hR.lst
          with_reducible refine WE.localA (by kernel_rfl) (by kernel_rfl) (by walk_at "lk") ?_
          with_reducible refine WC.neNN ?_
          with_reducible refine WTr.bool ?_
          with_reducible refine if_ff ?_
          with_reducible refine WSs.nil ?_
          with_reducible refine WSs.cons ?_
          with_reducible refine WS.ite ?_
          with_reducible refine WT.bool ?_
          with_reducible refine WA.and ?_
          with_reducible refine WT.cmp1 rfl ?_
          with_reducible refine WE.localA (by kernel_rfl) (by kernel_rfl) (by walk_at "lk") ?_
          with_reducible refine WE.none ?_
          with_reducible refine WC.isNN ?_
          with_reducible refine WTr.bool ?_
          with_reducible refine if_tt ?_
          with_reducible refine WA.and ?_
          with_reducible refine WT.cmp1 rfl ?_
          with_reducible refine WE.localA (by kernel_rfl) (by kernel_rfl) (by walk_at "lk") ?_
          with_reducible refine WE.int ?_
          with_reducible refine WC.lt ?_
          with_reducible refine WTr.bool ?_
          with_reducible refine if_dt (by with_reducible assumption) ?_
          with_reducible refine WA.and_nil ?_
          with_reducible refine if_tt ?_
          with_reducible refine WSs.cons ?_
          with_reducible refine WS.expr (by with_unfolding_all (first | exact fun _ _ => rfl | exact fun _ _ _ => rfl)) ?_
          with_reducible refine WE.method (by with_unfolding_all (first | exact fun _ _ => rfl | exact fun _ _ _ => rfl)) rfl rfl rfl ?_
          with_reducible refine WE.localA (by kernel_rfl) (by kernel_rfl) (by walk_at "lk") ?_
          refine WM.listAppend hB ?_
          with_reducible refine And.intro (Callee.con rfl) ?_
          with_reducible refine WEs.cons rfl ?_
          refine WE.list 7 ?_
          with_reducible refine WEs.cons rfl ?_
          with_reducible refine WE.cellA (by kernel_rfl) (by kernel_rfl) (by walk_at "lk") ?_
          with_reducible refine WEs.cons rfl ?_
          with_reducible refine WE.localA (by kernel_rfl) (by kernel_rfl) (by walk_at "lk") ?_
          with_reducible refine WEs.cons rfl ?_
          with_reducible refine WE.cellA (by kernel_rfl) (by kernel_rfl) (by walk_at "lk") ?_
          with_reducible refine WEs.cons rfl ?_
          with_reducible refine WE.cmp1 rfl ?_
          with_reducible refine WE.localA (by kernel_rfl) (by kernel_rfl) (by walk_at "lk") ?_
          with_reducible refine WE.int ?_
          with_reducible refine WC.eqI ?_
          with_reducible refine WEs.nil ?_
          refine ⟨by simp, fun r' hr' => ?_⟩
          with_reducible refine WEs.nil ?_
          refine WCall.append (Hp.new hr'.none hB) (by rw [List.length_map]; omega) ?_
          with_reducible refine WSs.nil ?_
          with_reducible refine WSs.nil ?_
          have o12 : ∀ {a t o}, σ11 a = some (t, o) → t ≠ 6 → ((σ11.put r' 7 (.list [.str x, .str y, .int k, .bool (kind == 0)])).put B 6 (.list (ts.map .ref ++ [.ref r']))) a = some (t, o) := fun q n6 => Hp.tag (Hp.new hr'.none hB) n6 (Hp.new hr'.none q)
          refine hKS _ _ ⟨⟨B, tm', ab', _, ts ++ [r'], ⟨h'.keep (fun q => o12 q (by decide)) (fun q h => o12 q (by omega)), rel', ⟨by rw [List.map_append]; exact Hp.self, (hR.row.imp fun _ _ q => o12 q (by decide)).append (.cons (Hp.tag (Hp.new hr'.none hB) (by decide) Hp.self) .nil)⟩, nms.keep (fun q => o12 q (by decide)) (fun q => o12 q (by decide)), gk', fun r hr => ?_⟩, by rw [List.length_append]; exact Nat.succ_le_succ hRi, by walk_at "lk"⟩, .good hxg, nu.keep fun q => o12 q (by decide), o12 hC (by decide), by walk_at "lk", by walk_at "lk", by walk_at "lk", by walk_at "lk", by ((repeat (first | (with_reducible assumption) | (with_reducible refine Lo.put_ne (by kernel_rfl) ?_))))⟩
          rcases List.mem_append.mp hr with q | q
          · exact dd.rn r q
          · rw [List.mem_singleton.mp q]; exact hxg
        | @gone x ev k2 =>
          subst ev; subst k2
          have hB := hR.lst
          with_reducible refine WE.localA (by kernel_rfl) (by kernel_rfl) (by walk_at "lk") ?_
          with_reducible refine WC.neNN ?_
          with_reducible refine WTr.bool ?_
          with_reducible refine if_ff ?_
          with_reducible refine WSs.nil ?_
          with_reducible refine WSs.cons ?_
          with_reducible refine WS.ite ?_
          with_reducible refine WT.bool ?_
          with_reducible refine WA.and ?_
          with_reducible refine WT.cmp1 rfl ?_
          with_reducible refine WE.localA (by kernel_rfl) (by kernel_rfl) (by walk_at "lk") ?_
          with_reducible refine WE.none ?_
          with_reducible refine WC.isNN ?_
          with_reducible refine WTr.bool ?_
          with_reducible refine if_tt ?_
          with_reducible refine WA.and ?_
          with_reducible refine WT.cmp1 rfl ?_
          with_reducible refine WE.localA (by kernel_rfl) (by kernel_rfl) (by walk_at "lk") ?_
          with_reducible refine WE.int ?_
          with_reducible refine WC.lt ?_
          with_reducible refine WTr.bool ?_
          with_reducible refine if_pf (by decide) ?_
          with_reducible refine if_ff ?_
          with_reducible refine WSs.cons ?_
          with_reducible refine WS.ite ?_
          with_reducible refine WT.bool ?_
          with_reducible refine WA.and ?_
          with_reducible refine WT.cmp1 rfl ?_
          with_reducible refine WE.localA (by kernel_rfl) (by kernel_rfl) (by walk_at "lk") ?_
          with_reducible refine WE.none ?_
          with_reducible refine WC.isNN ?_
          with_reducible refine WTr.bool ?_
          with_reducible refine if_tt ?_
          with_reducible refine WA.and ?_
          with_reducible refine WT.cmp1 rfl ?_
          with_reducible refine WE.localA (by kernel_rfl) (by kernel_rfl) (by walk_at "lk") ?_
          with_reducible refine WE.int ?_
          with_reducible refine WC.eqI ?_
          with_reducible refine WTr.bool ?_
          with_reducible refine if_pt (by decide) ?_
          with_reducible refine WA.and_nil ?_
          with_reducible refine if_tt ?_
          with_reducible refine WSs.cons ?_
          refine WS.assignCompA 6 rfl (by with_unfolding_all (first | exact fun _ _ => rfl | exact fun _ _ _ => rfl)) (by kernel_rfl) (by ((repeat (first | (with_reducible assumption) | (with_reducible refine Lo.put_ne (by kernel_rfl) ?_))))) (by kernel_rfl) (by kernel_rfl) ?_
          with_reducible refine WE.localA (by kernel_rfl) (by kernel_rfl) (by walk_at "lk") ?_
          refine ⟨_, _, Iterable.list (ListAt.own hB), by rw [List.length_map]; omega, ?_⟩
          refine pick9 hR (fun r => r.name != x) (fun u' r e K hK => ?_) (fun u' K hK => ?_) fun us hus D hD => ?_
          · have z0 : [MV.str r.name, .str r.up, .int r.share, .bool r.team][Int.toNat 0]? = some (.str r.name) := rfl
            with_reducible refine WT.cmp1 rfl ?_
            with_reducible refine WE.sub ?_
            with_reducible refine WE.localA (by kernel_rfl) (by kernel_rfl) (by walk_at "lk") ?_
            with_reducible refine WE.int ?_
            with_reducible refine WSub.list (by with_unfolding_all (first | exact fun _ _ => rfl | exact fun _ _ _ => rfl)) (by first | with_reducible assumption | ((with_reducible apply ListAt.own); walk_at "hp") | ((with_reducible apply ListAt.k); walk_at "hp")) (by walk_at "ar") (by walk_at "ar") (by with_reducible assumption) ?_
            with_reducible refine WE.cellA (by kernel_rfl) (by kernel_rfl) (by walk_at "lk") ?_
            with_reducible refine WC.neS ?_
            with_reducible refine WTr.bool ?_
            exact hK
          · skip
            with_reducible refine WE.localA (by kernel_rfl) (by kernel_rfl) (by walk_at "lk") ?_
            exact hK
          with_reducible refine WSs.nil ?_
          with_reducible refine WSs.nil ?_
          with_reducible refine WSs.nil ?_
          have e12 : Extd σ11 (σ11.put D 6 (.list (us.map .ref))) := fun a p q => Hp.new hD q
          exact hKS _ _ ⟨⟨D, tm', ab', _, us, ⟨h'.ext e12, rel', ⟨Hp.self, hus.imp fun _ _ q => e12 _ _ q⟩, nms.keep (fun q => e12 _ _ q) (fun q => e12 _ _ q), gk', fun r hr => dd.rn r (List.mem_filter.mp hr).1⟩, Nat.le_trans (List.length_filter_le _ _) (by omega), by walk_at "lk"⟩, nv.keep fun q => e12 _ _ q, nu.keep fun q => e12 _ _ q, e12 _ _ hC, by walk_at "lk", by walk_at "lk", by walk_at "lk", by walk_at "lk", by ((repeat (first | (with_reducible assumption) | (with_reducible refine Lo.put_ne (by kernel_rfl) ?_))))⟩
        | @resh x k ev es k2 k3 =>
          subst ev; subst es
          have hB := hR.lst
          have b3 : (kind == 2) = false := beq_eq_false_iff_ne.mpr k3
          with_reducible refine WE.localA (by kernel_rfl) (by kernel_rfl) (by walk_at "lk") ?_
          with_reducible refine WC.neNN ?_
          with_reducible refine WTr.bool ?_
          with_reducible refine if_ff ?_
          with_reducible refine WSs.nil ?_
          with_reducible refine WSs.cons ?_
          with_reducible refine WS.ite ?_
          with_reducible refine WT.bool ?_
          with_reducible refine WA.and ?_
          with_reducible refine WT.cmp1 rfl ?_
          with_reducible refine WE.localA (by kernel_rfl) (by kernel_rfl) (by walk_at "lk") ?_
          with_reducible refine WE.none ?_
          with_reducible refine WC.isNN ?_
          with_reducible refine WTr.bool ?_
          with_reducible refine if_tt ?_
          with_reducible refine WA.and ?_
          with_reducible refine WT.cmp1 rfl ?_
          with_reducible refine WE.localA (by kernel_rfl) (by kernel_rfl) (by walk_at "lk") ?_
          with_reducible refine WE.int ?_
          with_reducible refine WC.lt ?_
          with_reducible refine WTr.bool ?_
          with_reducible refine if_df (by with_reducible assumption) ?_
          with_reducible refine if_ff ?_
          with_reducible refine WSs.cons ?_
          with_reducible refine WS.ite ?_
          with_reducible refine WT.bool ?_
          with_reducible refine WA.and ?_
          with_reducible refine WT.cmp1 rfl ?_
          with_reducible refine WE.localA (by kernel_rfl) (by kernel_rfl) (by walk_at "lk") ?_
          with_reducible refine WE.none ?_
          with_reducible refine WC.isNN ?_
          with_reducible refine WTr.bool ?_
          with_reducible refine if_tt ?_
          with_reducible refine WA.and ?_
          with_reducible refine WT.cmp1 rfl ?_
          with_reducible refine WE.localA (by kernel_rfl) (by kernel_rfl) (by walk_at "lk") ?_
          with_reducible refine WE.int ?_
          with_reducible refine WC.eqI ?_
          with_reducible refine WTr.bool ?_
          with_reducible refine if_pf (by with_reducible assumption) ?_
          with_reducible refine if_ff ?_
          with_reducible refine WSs.cons ?_
          with_reducible refine WS.ite ?_
          with_reducible refine WT.cmp1 rfl ?_
          with_reducible refine WE.localA (by kernel_rfl) (by kernel_rfl) (by walk_at "lk") ?_
          with_reducible refine WE.none ?_
          with_reducible refine WC.isNN ?_
          with_reducible refine WTr.bool ?_
          with_reducible refine if_tt ?_
          with_reducible refine WSs.cons ?_
          refine WS.assignCompA 6 rfl (by with_unfolding_all (first | exact fun _ _ => rfl | exact fun _ _ _ => rfl)) (by kernel_rfl) (by ((repeat (first | (with_reducible assumption) | (with_reducible refine Lo.put_ne (by kernel_rfl) ?_))))) (by kernel_rfl) (by kernel_rfl) ?_
          with_reducible refine WE.localA (by kernel_rfl) (by kernel_rfl) (by walk_at "lk") ?_
          refine ⟨_, _, Iterable.list (ListAt.own hB), by rw [List.length_map]; omega, ?_⟩
          refine WComp.inv (fun j acc σ' => Extd σ11 σ' ∧ ∃ us : List Nat, acc = us.map .ref ∧ All2 (RowAt σ') us ((R.take j).map (setShare x k))) _ 0 ⟨fun _ _ q => q, [], rfl, .nil⟩ ?_ ?_
          · rintro j w' acc σ12 hw' ⟨e, us, rfl, hus⟩
            rw [List.getElem?_map] at hw'
            obtain ⟨u', hu', rfl⟩ := Option.map_eq_some_iff.mp hw'
            obtain ⟨r, hr, er⟩ := hR.row.get hu'
            have er : σ12 u' = some (7, .list [.str r.name, .str r.up, .int r.share, .bool r.team]) := e _ _ er
            have z0 : [MV.str r.name, .str r.up, .int r.share, .bool r.team][Int.toNat 0]? = some (.str r.name) := rfl
            have z1 : [MV.str r.name, .str r.up, .int r.share, .bool r.team][Int.toNat 1]? = some (.str r.up) := rfl
            have z3 : [MV.str r.name, .str r.up, .int r.share, .bool r.team][Int.toNat 3]? = some (.bool r.team) := rfl
            have tk : (R.take (0 + j + 1)).map (setShare x k) = (R.take (0 + j)).map (setShare x k) ++ [setShare x k r] := by
              rw [List.take_add_one, Nat.zero_add, hr]; simp
            refine ⟨ListAt.own (e _ _ hB), ?_⟩
            rw [tk]
            cases hc : (r.name == x) with
            | true =>
              have es : setShare x k r = ⟨r.name, r.up, k, r.team⟩ := by unfold setShare; rw [if_pos hc]
              with_reducible refine WE.ifexp ?_
              with_reducible refine WT.cmp1 rfl ?_
              with_reducible refine WE.sub ?_
              with_reducible refine WE.localA (by kernel_rfl) (by kernel_rfl) (by walk_at "lk") ?_
              with_reducible refine WE.int ?_
              with_reducible refine WSub.list (by with_unfolding_all (first | exact fun _ _ => rfl | exact fun _ _ _ => rfl)) (by first | with_reducible assumption | ((with_reducible apply ListAt.own); walk_at "hp") | ((with_reducible apply ListAt.k); walk_at "hp")) (by walk_at "ar") (by walk_at "ar") (by with_reducible assumption) ?_
              with_reducible refine WE.cellA (by kernel_rfl) (by kernel_rfl) (by walk_at "lk") ?_
              with_reducible refine WC.eqS ?_
              with_reducible refine WTr.bool ?_
              with_reducible refine if_pt (by with_reducible assumption) ?_
              refine WE.list 7 ?_
              with_reducible refine WEs.cons rfl ?_
              with_reducible refine WE.sub ?_
              with_reducible refine WE.localA (by kernel_rfl) (by kernel_rfl) (by walk_at "lk") ?_
              with_reducible refine WE.int ?_
              with_reducible refine WSub.list (by with_unfolding_all (first | exact fun _ _ => rfl | exact fun _ _ _ => rfl)) (by first | with_reducible assumption | ((with_reducible apply ListAt.own); walk_at "hp") | ((with_reducible apply ListAt.k); walk_at "hp")) (by walk_at "ar") (by walk_at "ar") (by with_reducible assumption) ?_
              with_reducible refine WEs.cons rfl ?_
              with_reducible refine WE.sub ?_
              with_reducible refine WE.localA (by kernel_rfl) (by kernel_rfl) (by walk_at "lk") ?_
              with_reducible refine WE.int ?_
              with_reducible refine WSub.list (by with_unfolding_all (first | exact fun _ _ => rfl | exact fun _ _ _ => rfl)) (by first | with_reducible assumption | ((with_reducible apply ListAt.own); walk_at "hp") | ((with_reducible apply ListAt.k); walk_at "hp")) (by walk_at "ar") (by walk_at "ar") (by with_reducible assumption) ?_
              with_reducible refine WEs.cons rfl ?_
              with_reducible refine WE.cellA (by kernel_rfl) (by kernel_rfl) (by walk_at "lk") ?_
              with_reducible refine WEs.cons rfl ?_
              with_reducible refine WE.sub ?_
              with_reducible refine WE.localA (by kernel_rfl) (by kernel_rfl) (by walk_at "lk") ?_
              with_reducible refine WE.int ?_
              with_reducible refine WSub.list (by with_unfolding_all (first | exact fun _ _ => rfl | exact fun _ _ _ => rfl)) (by first | with_reducible assumption | ((with_reducible apply ListAt.own); walk_at "hp") | ((with_reducible apply ListAt.k); walk_at "hp")) (by walk_at "ar") (by walk_at "ar") (by with_reducible assumption) ?_
              with_reducible refine WEs.nil ?_
              refine ⟨by simp, fun D hD => ?_⟩
              refine ⟨fun a p q => Hp.new hD.none (e _ _ q), us ++ [D], by simp, (hus.imp fun _ _ q => Hp.new hD.none q).append (.cons ?_ .nil)⟩
              rw [es]
              exact Hp.self
            | false =>
              have es : setShare x k r = r := by unfold setShare; rw [if_neg (by rw [hc]; decide)]
              with_reducible refine WE.ifexp ?_
              with_reducible refine WT.cmp1 rfl ?_
              with_reducible refine WE.sub ?_
              with_reducible refine WE.localA (by kernel_rfl) (by kernel_rfl) (by walk_at "lk") ?_
              with_reducible refine WE.int ?_
              with_reducible refine WSub.list (by with_unfolding_all (first | exact fun _ _ => rfl | exact fun _ _ _ => rfl)) (by first | with_reducible assumption | ((with_reducible apply ListAt.own); walk_at "hp") | ((with_reducible apply ListAt.k); walk_at "hp")) (by walk_at "ar") (by walk_at "ar") (by with_reducible assumption) ?_
              with_reducible refine WE.cellA (by kernel_rfl) (by kernel_rfl) (by walk_at "lk") ?_
              with_reducible refine WC.eqS ?_
              with_reducible refine WTr.bool ?_
              with_reducible refine if_pf (by with_reducible assumption) ?_
              with_reducible refine WE.localA (by kernel_rfl) (by kernel_rfl) (by walk_at "lk") ?_
              refine ⟨e, us ++ [u'], by simp, hus.append (.cons ?_ .nil)⟩
              rw [es]
              exact er
          rintro acc σ12 ⟨e, us, rfl, hus⟩
          refine ⟨ListAt.own (e _ _ hB), fun D hD => ?_⟩
          have et : R.take (0 + (ts.map MV.ref).length) = R := by rw [Nat.zero_add, List.length_map, tl, List.take_length]
          rw [et] at hus
          with_reducible refine WSs.nil ?_
          with_reducible refine WSs.nil ?_
          with_reducible refine WSs.nil ?_
          with_reducible refine WSs.nil ?_
          have e12 : Extd σ11 (σ12.put D 6 (.list (us.map .ref))) := fun a p q => Hp.new hD (e _ _ q)
          refine hKS _ _ ⟨⟨D, tm', ab', _, us, ⟨h'.ext e12, rel', ⟨Hp.self, hus.imp fun _ _ q => Hp.new hD q⟩, nms.keep (fun q => e12 _ _ q) (fun q => e12 _ _ q), gk', fun r hr => ?_⟩, by rw [List.length_map]; omega, by walk_at "lk"⟩, nv.keep fun q => e12 _ _ q, nu.keep fun q => e12 _ _ q, e12 _ _ hC, by walk_at "lk", by walk_at "lk", by walk_at "lk", by walk_at "lk", by ((repeat (first | (with_reducible assumption) | (with_reducible refine Lo.put_ne (by kernel_rfl) ?_))))⟩
          obtain ⟨q, hq', rfl⟩ := List.mem_map.mp hr
          rw [(setShare_name _ _ q).1]
          exact dd.rn q hq'
      · skip
        with_reducible refine WS.ite ?_
        with_reducible refine WT.cmp1 rfl ?_
        with_reducible refine WE.localA (by kernel_rfl) (by kernel_rfl) (by walk_at "lk") ?_
        with_reducible refine WE.int ?_
        with_reducible refine WC.lt ?_
        with_reducible refine WTr.bool ?_
        with_reducible refine if_df (by with_reducible assumption) ?_
        with_reducible refine WSs.nil ?_
        exact hKS _ _ ⟨⟨B, tm, ab, R, ts, ⟨dd.h, dd.rel, dd.rows, dd.nms, fun t ht => by have := dd.gk t ht; omega, dd.rn⟩, by omega, by walk_at "lk"⟩, nv, nu, hC, by walk_at "lk", by walk_at "lk", by walk_at "lk", by walk_at "lk", by ((repeat (first | (with_reducible assumption) | (with_reducible refine Lo.put_ne (by kernel_rfl) ?_))))⟩
    clear nv nu hC dd sok rr r1 r2 rd qn qa qk qs
    rintro ρ2 σ' ⟨⟨B, tm, ab, R, ts, dd, hRi, rr⟩, nv, nu, hC, qn, qa, r1, r2, rd⟩
    with_reducible refine WSs.cons ?_
    with_reducible refine WS.ite ?_
    with_reducible refine WT.bool ?_
    with_reducible refine WA.or ?_
    with_reducible refine WT.not ?_
    with_reducible refine WT.plain (by with_unfolding_all (first | exact fun _ _ => rfl | exact fun _ _ _ => rfl)) ?_
    with_reducible refine WE.call rfl rfl ?_
    with_reducible refine WE.globalA (by kernel_rfl) g_law_wheel_good ?_
    with_reducible refine And.intro (Callee.fn fn_law_wheel_good) ?_
    with_reducible refine WEs.cons rfl ?_
    with_reducible refine WE.localA (by kernel_rfl) (by kernel_rfl) (by walk_at "lk") ?_
    with_reducible refine WEs.cons rfl ?_
    with_reducible refine WE.localA (by kernel_rfl) (by kernel_rfl) (by walk_at "lk") ?_
    with_reducible refine WEs.cons rfl ?_
    with_reducible refine WE.localA (by kernel_rfl) (by kernel_rfl) (by walk_at "lk") ?_
    with_reducible refine WEs.nil ?_
    refine WCall.of_fn (wheel_good_c dd.h dd.rows (by omega) dd.rel nu.nam fun σ1 o1 => ?_)
    have dd := dd.oth o1
    have hC := o1.at hC (by decide)
    have nv := nv.keep (σ' := σ1) fun q => o1.at q (by decide)
    with_reducible refine WTr.bool ?_
    with_reducible refine if_nt ?_
    with_reducible refine WA.or ?_
    with_reducible refine WT.not ?_
    with_reducible refine WT.plain (by with_unfolding_all (first | exact fun _ _ => rfl | exact fun _ _ _ => rfl)) ?_
    with_reducible refine WE.call rfl rfl ?_
    with_reducible refine WE.globalA (by kernel_rfl) g_law_wheel_good ?_
    with_reducible refine And.intro (Callee.fn fn_law_wheel_good) ?_
    with_reducible refine WEs.cons rfl ?_
    with_reducible refine WE.localA (by kernel_rfl) (by kernel_rfl) (by walk_at "lk") ?_
    with_reducible refine WEs.cons rfl ?_
    with_reducible refine WE.localA (by kernel_rfl) (by kernel_rfl) (by walk_at "lk") ?_
    with_reducible refine WEs.cons rfl ?_
    with_reducible refine WE.cellA (by kernel_rfl) (by kernel_rfl) (by walk_at "lk") ?_
    with_reducible refine WEs.nil ?_
    refine WCall.of_fn (wheel_good_c dd.h dd.rows (by omega) dd.rel nv.nam fun σ2 o2 => ?_)
    with_reducible refine WTr.bool ?_
    with_reducible refine if_nt ?_
    with_reducible refine WA.or_nil ?_
    with_reducible refine if_ff ?_
    with_reducible refine WSs.nil ?_
    with_reducible refine WSs.nil ?_
    exact hKL _ _ ⟨⟨B, tm, ab, R, ts, dd.oth o2, hRi, by walk_at "lk"⟩, o2.at hC (by decide), by walk_at "lk", by walk_at "lk", by ((repeat (first | (with_reducible assumption) | (with_reducible refine Lo.put_ne (by kernel_rfl) ?_))))⟩
  · clear d4 hC4 r0 r1 rd
    rintro ρ2 σ6 ⟨⟨B, tm, ab, R, ts, dd, hRi, rr⟩, hC6, r1, r2, rd⟩
    have gl := dd.nms.len
    have hN6 := dd.nms.lst
    refine ⟨ListAt.own hC6, ?_⟩
    with_reducible refine WSs.cons ?_
    with_reducible refine WS.for rfl (by with_unfolding_all (first | exact fun _ _ => rfl | exact fun _ _ _ => rfl)) ?_
    with_reducible refine WE.binop ?_
    refine WE.list 9 ?_
    with_reducible refine WEs.cons rfl ?_
    with_reducible refine WE.str ?_
    with_reducible refine WEs.nil ?_
    refine ⟨by simp, fun E hE => ?_⟩
    with_reducible refine WE.localA (by kernel_rfl) (by kernel_rfl) (by walk_at "lk") ?_
    refine WB.addL 9 (ListAt.own Hp.self) (ListAt.own (Hp.new hE.none hN6)) (by simp; omega) fun D hD => ?_
    refine ⟨_, _, Iterable.list (ListAt.own Hp.self), ?_⟩
    refine WFor.byIdxO (fun _ ρ' σ' => Rd9 σ' H dw da B N (101 + items.length) gs b1 b2 o tm ab R ts ∧ σ' D = some (9, .list ([MV.str ""] ++ (gs.map MV.str ++ [.str "", .str b1, .str b2, o]))) ∧ ρ' "_law_house" = some (.ref H) ∧ ρ' "_law_rows" = some (.ref B)) ?_ ?_ ?_
    · exact ⟨dd.ext fun a p q => Hp.new hD.none (Hp.new hE.none q), Hp.self, by walk_at "lk", by walk_at "lk"⟩
    · clear dd hN6 hE hD hC6 r1 r2 rd rr
      rintro i v ρ' σ' hv ⟨dd, hD, r1, r2⟩
      have nv : Nm9 gs σ' v := by
        rcases List.mem_append.mp (List.mem_of_getElem? hv) with q | q
        · rw [List.mem_singleton.mp q]; exact .bad badN.empty
        · exact nm_mem dd.nms q
      refine ⟨ListAt.own hD, ?_⟩
      intro KL hKL
      with_reducible refine WSt.localA (by kernel_rfl) ?_
      with_reducible refine WSs.cons ?_
      with_reducible refine WS.ite ?_
      with_reducible refine WT.not ?_
      with_reducible refine WT.plain (by with_unfolding_all (first | exact fun _ _ => rfl | exact fun _ _ _ => rfl)) ?_
      with_reducible refine WE.call rfl rfl ?_
      with_reducible refine WE.globalA (by kernel_rfl) g_law_wheel_good ?_
      with_reducible refine And.intro (Callee.fn fn_law_wheel_good) ?_
      with_reducible refine WEs.cons rfl ?_
      with_reducible refine WE.localA (by kernel_rfl) (by kernel_rfl) (by walk_at "lk") ?_
      with_reducible refine WEs.cons rfl ?_
      with_reducible refine WE.localA (by kernel_rfl) (by kernel_rfl) (by walk_at "lk") ?_
      with_reducible refine WEs.cons rfl ?_
      with_reducible refine WE.localA (by kernel_rfl) (by kernel_rfl) (by walk_at "lk") ?_
      with_reducible refine WEs.nil ?_
      refine WCall.of_fn (wheel_good_c dd.h dd.rows (by omega) dd.rel nv.nam fun σ'' o => ?_)
      with_reducible refine WTr.bool ?_
      with_reducible refine if_nt ?_
      with_reducible refine WSs.nil ?_
      with_reducible refine WSs.nil ?_
      exact hKL _ _ ⟨dd.oth o, o.at hD (by decide), by walk_at "lk", by walk_at "lk"⟩
    · rintro ρ' σ' ⟨_, hD, _, _⟩
      refine ⟨ListAt.own hD, ?_⟩
      with_reducible refine WSs.cons ?_
      with_reducible refine WS.ret ?_
      with_reducible refine WE.bool ?_
      exact rfl
end Mine
open PySem PySem.W PyProof.Rows
set_option maxRecDepth 100000 in
set_option maxHeartbeats 8000000 in
theorem PySem.Challenge.cw_uf030004_09_holds : PySem.Challenge.rw_uf030004_09.Holds := by
  refine Mine.hd ?_
  k_fill
  intro w s₀ s₁ mg mb G Y fa o pm cd doc dV kV ho hd hcd hD hmg hg args vals as hpre hlay hrd hwl hlo
  have KX := kIn_of Y
  have X := (Ground.X G).1
  have V := (Ground.X G).2
  refine Ground.open G ?_
  intro T B D TE TW
  wrow_args hpre hlay hrd hwl hlo
  all_goals (first | refine callC_kw (enter_call ?_) | refine enter_call ?_ | refine callC_kw (enter_callW ?_) | refine enter_callW ?_ | w_how)
  all_goals w_top on
  refine codeAny_mono ?_ (fun _ _ g => GoodW.toG g)
  have he := Dflts.none hD rfl
  subst he
  have he := Dflts.noKw hD
  subst he
  obtain ⟨body, scope, F, hw⟩ := Mine.law_A0 (w := w) (mean := ExcName.means s₀.heap) (mg := mg) (mb := mb)
  refine Mine.law_enter (c := Mine.cx w (ExcName.means s₀.heap) mg mb) (Mine.cx_ok w _ mg mb) (p := "_law_script") ho hd hcd KX T (fun u => rfl) (by decide +kernel) (by assumption) (by assumption) (fun ol => ?_) fun s' hk ho hg' => ?_
  · have F' : Mine.FnAt (Mine.cx w (ExcName.means s₀.heap) mg mb) Mine.a_law ["_law_script"] _ _ := ⟨⟨_, _, _, _, _, _, _, _, _, _, _, _, _, (rfl : (Mine.hd.heap_39 w.params).lookup Mine.a_law = _), by kernel_rfl, Mine.us1 fun _ => rfl⟩, by decide +kernel⟩
    obtain ⟨rfl, rfl⟩ := Mine.FnAt.unique F F'
    exact hw _ _ ol (by omega)
  · exact ⟨.inl ⟨_, _, _, rfl, fun cls => rfl, ReadsW.bool true, by kernel_rfl, fun _ => ⟨List.nodup_nil, fun a h => by cases h⟩⟩, hk, ho, hg'.trans hg⟩

