import PyProof.Rows.All
import Wide.All
import OpenK.AllK
import Wide.FinOn
import HandS.ForMost
import HandS.Walk
import HandS.IsInst
import HandS.TupAny
import HandS.TupMul
import HandS.Style
import HandS.Defaults
import HandS.MakeKw
import HandS.SortInts
import HandS.Deep
import HandS.Conv
import PyProof.StrBlock2
import HandS.Iter
import HandS.SetFor
import HandS.RevTup
import KE.GoesEnum
import KE.GoesMore
import KE.KStateDown
import HandS.Head0
import HandS.Head1
import HandS.Head2
import HandS.HeadEnd
import HandS.HeadHook1
import HandS.HeadHook2
import HandS.HeadHook3
import HandS.HeadHook4
import PySem.Challenge.RW_agreedapart_k46_whole_vouching
set_option Elab.async false
set_option linter.all false
set_option maxRecDepth 100000
set_option maxHeartbeats 2000000
/-! Sy: symbolic values over the hand layer -/
namespace Sy
open PySem PySem.Spec PyProof.Rows L2

inductive D where
  | non | bl (b : Bool) | int (i : Int) | str (x : Str)
  | lst (ds : List D) | tup (ds : List D)
  | ro (ds : List D) | rt (ds : List D)
  | obj (C : Addr) (ns : List Str) (ds : List D)
  | raw (v : V)

def Le (S T : Hp) : Prop := ∀ a o, S a = some o → T a = some o
theorem Le.refl (S : Hp) : Le S S := fun _ _ h => h
theorem Le.trans {S T U : Hp} (a : Le S T) (b : Le T U) : Le S U := fun x o h => b x o (a x o h)
theorem Le.new {S : Hp} {p : Addr} {o : HO} (h : S p = none) : Le S (upd S p o) := fun a u e => by
  rw [upd_ne (ne_of_none e h)]
  exact e
theorem Le.free {S H : Hp} (e : Le S H) {p : Addr} (h : H p = none) : S p = none := by
  cases q : S p with
  | none => rfl
  | some o => rw [e p o q] at h; cases h
theorem Le.upd2 {S H : Hp} {p : Addr} {o : HO} (e : Le S H) : Le (upd S p o) (upd H p o) := fun a u h => by
  by_cases z : a = p
  · subst z; rw [upd_same] at h ⊢; exact h
  · rw [upd_ne z] at h ⊢; exact e a u h
theorem Le.updR {S H : Hp} {p : Addr} {o : HO} (e : Le S H) (n : S p = none) : Le S (upd H p o) := fun a u h => by
  rw [upd_ne (ne_of_none h n)]; exact e a u h
theorem rd_le {H H' : Hp} {a : Addr} {u : HO} (e : Le H H') (h : Rd H a u) : Rd H' a u := by
  rcases h with h | ⟨o, h⟩
  · exact Or.inl (e a _ h)
  · exact Or.inr ⟨o, e a _ h⟩
theorem sqL_le {K : PySem.W.Frag} {H H' : Hp} {a : Addr} {xs : List V} (e : Le H H') (h : SqL K H a xs) : SqL K H' a xs := by
  rcases h with h | h
  · exact Or.inl (rd_le e h)
  · exact Or.inr h
theorem sqT_le {K : PySem.W.Frag} {H H' : Hp} {a : Addr} {xs : List V} (e : Le H H') (h : SqT K H a xs) : SqT K H' a xs := by
  rcases h with h | h
  · exact Or.inl (rd_le e h)
  · exact Or.inr h

mutual
inductive Rep (K : PySem.W.Frag) (S : Hp) : V → D → Prop
  | non : Rep K S .non .non
  | bl (b : Bool) : Rep K S (.bl b) (.bl b)
  | int (i : Int) : Rep K S (.int i) (.int i)
  | str (x : Str) : Rep K S (.str x) (.str x)
  | lst {a : Addr} {xs : List V} {ds : List D} : S a = some (.lst xs) → RepL K S xs ds → Rep K S (.ref a) (.lst ds)
  | tup {a : Addr} {xs : List V} {ds : List D} : S a = some (.tup xs) → RepL K S xs ds → Rep K S (.ref a) (.tup ds)
  | ro {a : Addr} {xs : List V} {ds : List D} : SqL K S a xs → RepL K S xs ds → Rep K S (.ref a) (.ro ds)
  | rt {a : Addr} {xs : List V} {ds : List D} : SqT K S a xs → RepL K S xs ds → Rep K S (.ref a) (.rt ds)
  | obj {a C dx : Addr} {fs : List (Str × V)} {ns : List Str} {ds : List D} : S a = some (.ins C dx fs) → fs.map (·.1) = ns → RepL K S (fs.map (·.2)) ds → Rep K S (.ref a) (.obj C ns ds)
  | raw (v : V) : Rep K S v (.raw v)
inductive RepL (K : PySem.W.Frag) (S : Hp) : List V → List D → Prop
  | nil : RepL K S [] []
  | cons {v : V} {vs : List V} {d : D} {ds : List D} : Rep K S v d → RepL K S vs ds → RepL K S (v :: vs) (d :: ds)
end

section
variable {K : PySem.W.Frag} {S T : Hp}
mutual
theorem Rep.mono (e : Le S T) : ∀ {v : V} {d : D}, Rep K S v d → Rep K T v d
  | _, _, .non => .non
  | _, _, .bl b => .bl b
  | _, _, .int i => .int i
  | _, _, .str x => .str x
  | _, _, .lst h r => .lst (e _ _ h) (RepL.mono e r)
  | _, _, .tup h r => .tup (e _ _ h) (RepL.mono e r)
  | _, _, .ro h r => .ro (sqL_le e h) (RepL.mono e r)
  | _, _, .rt h r => .rt (sqT_le e h) (RepL.mono e r)
  | _, _, .obj h n r => .obj (e _ _ h) n (RepL.mono e r)
  | _, _, .raw v => .raw v
theorem RepL.mono (e : Le S T) : ∀ {vs : List V} {ds : List D}, RepL K S vs ds → RepL K T vs ds
  | _, _, .nil => .nil
  | _, _, .cons h r => .cons (Rep.mono e h) (RepL.mono e r)
end
theorem RepL.len : ∀ {vs : List V} {ds : List D}, RepL K S vs ds → vs.length = ds.length
  | _, _, .nil => rfl
  | _, _, .cons _ r => congrArg Nat.succ (RepL.len r)
theorem RepL.at_ : ∀ {vs : List V} {ds : List D} {i : Nat} {d : D}, RepL K S vs ds → ds[i]? = some d → ∃ v, vs[i]? = some v ∧ Rep K S v d
  | _, _, _, _, .nil, h => by simp at h
  | _, _, 0, _, .cons h _, e => by simp at e; subst e; exact ⟨_, rfl, h⟩
  | _, _, i + 1, _, .cons _ r, e => by
    obtain ⟨v, h1, h2⟩ := RepL.at_ (i := i) r (by simpa using e)
    exact ⟨v, by simpa using h1, h2⟩
theorem RepL.atV : ∀ {vs : List V} {ds : List D} {i : Nat} {v : V}, RepL K S vs ds → vs[i]? = some v → ∃ d, ds[i]? = some d ∧ Rep K S v d
  | _, _, _, _, .nil, h => by simp at h
  | _, _, 0, _, .cons h _, e => by simp at e; subst e; exact ⟨_, rfl, h⟩
  | _, _, i + 1, _, .cons _ r, e => by
    obtain ⟨v, h1, h2⟩ := RepL.atV (i := i) r (by simpa using e)
    exact ⟨v, by simpa using h1, h2⟩
theorem RepL.app : ∀ {vs ws : List V} {ds es : List D}, RepL K S vs ds → RepL K S ws es → RepL K S (vs ++ ws) (ds ++ es)
  | _, _, _, _, .nil, s => s
  | _, _, _, _, .cons r t, s => .cons r (RepL.app t s)
theorem RepL.take : ∀ {vs : List V} {ds : List D} (n : Nat), RepL K S vs ds → RepL K S (vs.take n) (ds.take n)
  | _, _, 0, _ => .nil
  | _, _, _ + 1, .nil => .nil
  | _, _, n + 1, .cons r t => .cons r (RepL.take n t)
theorem RepL.drop : ∀ {vs : List V} {ds : List D} (n : Nat), RepL K S vs ds → RepL K S (vs.drop n) (ds.drop n)
  | _, _, 0, r => r
  | _, _, _ + 1, .nil => .nil
  | _, _, n + 1, .cons _ t => RepL.drop n t
theorem RepL.rev {vs : List V} {ds : List D} (h : RepL K S vs ds) : RepL K S vs.reverse ds.reverse := by
  induction vs generalizing ds with
  | nil => cases h; exact .nil
  | cons v vs ih =>
    cases h with
    | cons a b => rw [List.reverse_cons, List.reverse_cons]; exact (ih b).app (.cons a .nil)
theorem RepL.set {x : V} {d : D} (r : Rep K S x d) : ∀ {vs : List V} {ds : List D} (i : Nat), RepL K S vs ds → RepL K S (vs.set i x) (ds.set i d)
  | _, _, _, .nil => .nil
  | _, _, 0, .cons _ t => .cons r t
  | _, _, i + 1, .cons q t => .cons q (RepL.set r i t)
theorem RepL.ints : ∀ (ns : List Int), RepL K S (ns.map V.int) (ns.map D.int)
  | [] => .nil
  | n :: ns => .cons (.int n) (RepL.ints ns)
/-- a value's own form, by a scalar -/
def D.scal : D → Option V
  | .non => some .non
  | .bl b => some (.bl b)
  | .int i => some (.int i)
  | .str x => some (.str x)
  | .raw v => some v
  | _ => none
theorem Rep.scal {v w : V} {d : D} (h : Rep K S v d) (e : d.scal = some w) : v = w := by
  cases h <;> simp [D.scal] at e <;> first | exact e | cases e
theorem Rep.of_scal {w : V} {d : D} (e : d.scal = some w) : Rep K S w d := by
  cases d <;> simp [D.scal] at e <;> (subst e; constructor)
theorem Rep.intE {v : V} {i : Int} (h : Rep K S v (.int i)) : v = .int i := h.scal rfl
theorem Rep.blE {v : V} {i : Bool} (h : Rep K S v (.bl i)) : v = .bl i := h.scal rfl
theorem Rep.strE {v : V} {i : Str} (h : Rep K S v (.str i)) : v = .str i := h.scal rfl
theorem Rep.nonE {v : V} (h : Rep K S v .non) : v = .non := h.scal rfl
theorem Rep.rawE {v w : V} (h : Rep K S v (.raw w)) : v = w := h.scal rfl
end

/-! ### mutable objects -/
inductive MO where
  | lst (ds : List D)
  | ins (C : Addr) (ns : List Str) (ds : List D)
  | dk (ks : List Key) (ds : List D)
def MOk (K : PySem.W.Frag) (S H : Hp) (a : Addr) : MO → Prop
  | .lst ds => ∃ xs, H a = some (.lst xs) ∧ RepL K S xs ds
  | .ins C ns ds => ∃ dx fs, H a = some (.ins C dx fs) ∧ fs.map (·.1) = ns ∧ RepL K S (fs.map (·.2)) ds
  | .dk ks ds => ∃ kvs, H a = some (.dK kvs) ∧ kvs.map (·.1) = ks ∧ RepL K S (kvs.map (·.2)) ds
abbrev MS := Addr → Option MO
def updM (M : MS) (a : Addr) (o : MO) : MS := fun b => if b = a then some o else M b
def delM (M : MS) (a : Addr) : MS := fun b => if b = a then none else M b
def noM : MS := fun _ => none
theorem updM_same {M : MS} {a : Addr} {o : MO} : updM M a o a = some o := by unfold updM; rw [if_pos rfl]
theorem updM_ne {M : MS} {a b : Addr} {o : MO} (h : b ≠ a) : updM M a o b = M b := by unfold updM; rw [if_neg h]
theorem updM_updM {M : MS} {a : Addr} {o u : MO} : updM (updM M a o) a u = updM M a u := by
  funext b; unfold updM; split <;> rfl
theorem delM_ne {M : MS} {a b : Addr} (h : b ≠ a) : delM M a b = M b := by unfold delM; rw [if_neg h]
theorem delM_same {M : MS} {a : Addr} : delM M a a = none := by unfold delM; rw [if_pos rfl]
theorem delM_updM {M : MS} {a : Addr} {o : MO} (h : M a = none) : delM (updM M a o) a = M := by
  funext b; unfold delM updM
  by_cases z : b = a
  · rw [if_pos z, z, h]
  · rw [if_neg z, if_neg z]
theorem MOk.tracked {K : PySem.W.Frag} {S H : Hp} {a : Addr} {o : MO} (h : MOk K S H a o) : H a ≠ none := by
  cases o with
  | lst ds => obtain ⟨xs, e, _⟩ := h; rw [e]; simp
  | ins C ns ds => obtain ⟨_, _, e, _⟩ := h; rw [e]; simp
  | dk ks ds => obtain ⟨_, e, _⟩ := h; rw [e]; simp
theorem MOk.mono {K : PySem.W.Frag} {S T H H' : Hp} {a : Addr} {o : MO} (h : MOk K S H a o) (e : Le S T) (he : H' a = H a) : MOk K T H' a o := by
  cases o with
  | lst ds => obtain ⟨xs, e1, r⟩ := h; exact ⟨xs, he.trans e1, r.mono e⟩
  | ins C ns ds => obtain ⟨dx, fs, e1, n, r⟩ := h; exact ⟨dx, fs, he.trans e1, n, r.mono e⟩
  | dk ks ds => obtain ⟨kvs, e1, n, r⟩ := h; exact ⟨kvs, he.trans e1, n, r.mono e⟩

/-- the state: F the callers' part, S what is settled, M what changes -/
structure Ok (K : PySem.W.Frag) (F S : Hp) (M : MS) (H : Hp) : Prop where
  s : Le S H
  f : Le F H
  fs : ∀ a, F a ≠ none → S a = none
  m : ∀ a o, M a = some o → MOk K S H a o ∧ S a = none ∧ F a = none
structure Sl (K : PySem.W.Frag) (S : Hp) (Γ : List (Option D)) (σ : L2.St) : Prop where
  len : σ.length = Γ.length
  at_ : ∀ (i : Nat) (d : D), Γ[i]? = some (some d) → ∃ v, σ[i]? = some (some v) ∧ Rep K S v d

section
variable {K : PySem.W.Frag} {F S T H : Hp} {M : MS} {Γ : List (Option D)} {σ : L2.St}
theorem Sl.mono (h : Sl K S Γ σ) (e : Le S T) : Sl K T Γ σ := ⟨h.len, fun i d q => let ⟨v, a, b⟩ := h.at_ i d q; ⟨v, a, b.mono e⟩⟩
theorem Sl.set {i : Nat} {v : V} {d : D} (h : Sl K S Γ σ) (r : Rep K S v d) : Sl K S (Γ.set i (some d)) (σ.set i (some v)) := by
  refine ⟨by rw [List.length_set, List.length_set, h.len], fun j e q => ?_⟩
  by_cases z : i = j
  · subst z
    by_cases hl : i < Γ.length
    · rw [List.getElem?_set_self hl] at q
      cases q
      exact ⟨v, List.getElem?_set_self (by rw [h.len]; exact hl), r⟩
    · rw [List.getElem?_eq_none (by rw [List.length_set]; omega)] at q
      cases q
  · rw [List.getElem?_set_ne z] at q
    rw [List.getElem?_set_ne z]
    exact h.at_ j e q
theorem Sl.set0 {i : Nat} {u : Option V} (h : Sl K S Γ σ) : Sl K S (Γ.set i none) (σ.set i u) := by
  refine ⟨by rw [List.length_set, List.length_set, h.len], fun j e q => ?_⟩
  by_cases z : i = j
  · subst z
    by_cases hl : i < Γ.length
    · rw [List.getElem?_set_self hl] at q
      cases q
    · rw [List.getElem?_eq_none (by rw [List.length_set]; omega)] at q
      cases q
  · rw [List.getElem?_set_ne z] at q
    rw [List.getElem?_set_ne z]
    exact h.at_ j e q
theorem Ok.fresh (h : Ok K F S M H) {p : Addr} (hp : H p = none) : S p = none ∧ F p = none ∧ M p = none := by
  refine ⟨h.s.free hp, h.f.free hp, ?_⟩
  cases q : M p with
  | none => rfl
  | some o => exact absurd hp (h.m p o q).1.tracked
/-- a new settled object -/
theorem Ok.new (h : Ok K F S M H) {p : Addr} {o : HO} (hp : H p = none) : Ok K F (upd S p o) M (upd H p o) := by
  obtain ⟨h1, h2, h3⟩ := h.fresh hp
  refine ⟨h.s.upd2, h.f.updR h2, fun a ha => ?_, fun a u e => ?_⟩
  · have : a ≠ p := fun z => ha (by rw [z]; exact h2)
    rw [upd_ne this]; exact h.fs a ha
  · have : a ≠ p := fun z => by rw [z, h3] at e; cases e
    obtain ⟨a1, a2, a3⟩ := h.m a u e
    exact ⟨a1.mono (Le.new h1) (upd_ne this), by rw [upd_ne this]; exact a2, a3⟩
/-- a new object that changes -/
theorem Ok.newM (h : Ok K F S M H) {p : Addr} {o : HO} {u : MO} (hp : H p = none) (hu : MOk K S (upd H p o) p u) : Ok K F S (updM M p u) (upd H p o) := by
  obtain ⟨h1, h2, h3⟩ := h.fresh hp
  refine ⟨h.s.updR h1, h.f.updR h2, h.fs, fun a v e => ?_⟩
  by_cases z : a = p
  · subst z; rw [updM_same] at e; cases e; exact ⟨hu, h1, h2⟩
  · rw [updM_ne z] at e
    obtain ⟨a1, a2, a3⟩ := h.m a v e
    exact ⟨a1.mono (Le.refl _) (upd_ne z), a2, a3⟩
/-- an object that changes is changed -/
theorem Ok.chg (h : Ok K F S M H) {p : Addr} {o : HO} {u u0 : MO} (hp : M p = some u0) (hu : MOk K S (upd H p o) p u) : Ok K F S (updM M p u) (upd H p o) := by
  obtain ⟨_, h1, h2⟩ := h.m p u0 hp
  refine ⟨h.s.updR h1, h.f.updR h2, h.fs, fun a v e => ?_⟩
  by_cases z : a = p
  · subst z; rw [updM_same] at e; cases e; exact ⟨hu, h1, h2⟩
  · rw [updM_ne z] at e
    obtain ⟨a1, a2, a3⟩ := h.m a v e
    exact ⟨a1.mono (Le.refl _) (upd_ne z), a2, a3⟩
/-- fewer objects are told -/
theorem Ok.less (h : Ok K F S M H) {M' : MS} (k : ∀ a o, M' a = some o → M a = some o) : Ok K F S M' H := ⟨h.s, h.f, h.fs, fun a o e => h.m a o (k a o e)⟩
/-- a list that changes no more -/
theorem Ok.freeze (h : Ok K F S M H) {p : Addr} {ds : List D} (hp : M p = some (.lst ds)) : ∃ T, Le S T ∧ Ok K F T (delM M p) H ∧ Rep K T (.ref p) (.lst ds) := by
  obtain ⟨⟨xs, e, r⟩, h1, h2⟩ := h.m p _ hp
  refine ⟨upd S p (.lst xs), Le.new h1, ⟨fun a u q => ?_, h.f, fun a ha => ?_, fun a u q => ?_⟩, .lst upd_same (r.mono (Le.new h1))⟩
  · by_cases z : a = p
    · subst z; rw [upd_same] at q; cases q; exact e
    · rw [upd_ne z] at q; exact h.s a u q
  · have : a ≠ p := fun z => ha (by rw [z]; exact h2)
    rw [upd_ne this]; exact h.fs a ha
  · by_cases z : a = p
    · subst z; rw [delM_same] at q; cases q
    · rw [delM_ne z] at q
      obtain ⟨a1, a2, a3⟩ := h.m a u q
      exact ⟨a1.mono (Le.new h1) rfl, by rw [upd_ne z]; exact a2, a3⟩
/-- an instance that changes no more -/
theorem Ok.freezeI (h : Ok K F S M H) {p C : Addr} {ns : List Str} {ds : List D} (hp : M p = some (.ins C ns ds)) : ∃ T, Le S T ∧ Ok K F T (delM M p) H ∧ Rep K T (.ref p) (.obj C ns ds) := by
  obtain ⟨⟨dx, fs, e, n, r⟩, h1, h2⟩ := h.m p _ hp
  refine ⟨upd S p (.ins C dx fs), Le.new h1, ⟨fun a u q => ?_, h.f, fun a ha => ?_, fun a u q => ?_⟩, .obj upd_same n (r.mono (Le.new h1))⟩
  · by_cases z : a = p
    · subst z; rw [upd_same] at q; cases q; exact e
    · rw [upd_ne z] at q; exact h.s a u q
  · have : a ≠ p := fun z => ha (by rw [z]; exact h2)
    rw [upd_ne this]; exact h.fs a ha
  · by_cases z : a = p
    · subst z; rw [delM_same] at q; cases q
    · rw [delM_ne z] at q
      obtain ⟨a1, a2, a3⟩ := h.m a u q
      exact ⟨a1.mono (Le.new h1) rfl, by rw [upd_ne z]; exact a2, a3⟩
end
end Sy

set_option Elab.async false
set_option linter.all false
set_option maxRecDepth 100000
set_option maxHeartbeats 2000000
/-! Sy2: judgements over symbolic values -/
namespace L2
open PySem PySem.Spec PyProof.Rows
theorem PE.imp {X : Cx} {e : Expr} {t t' : TE} (h : PE X e t) (k : ∀ σ H Q, t' σ H Q → t σ H Q) : PE X e t' := ⟨fun pins s σ H Q I q => h.run pins s σ H Q I (k σ H Q q)⟩
theorem PT.imp {X : Cx} {e : Expr} {t t' : TT} (h : PT X e t) (k : ∀ σ H Q, t' σ H Q → t σ H Q) : PT X e t' := ⟨fun pins s σ H Q I q => h.run pins s σ H Q I (k σ H Q q)⟩
theorem PA.imp {X : Cx} {e : List Expr} {t t' : TA} (h : PA X e t) (k : ∀ σ H Q, t' σ H Q → t σ H Q) : PA X e t' := ⟨fun pos pins s σ H Q I q => h.run pos pins s σ H Q I (k σ H Q q)⟩
theorem PK.imp {X : Cx} {e : List Keyword} {t t' : TA} (h : PK X e t) (k : ∀ σ H Q, t' σ H Q → t σ H Q) : PK X e t' := ⟨fun pos pins s σ H Q I q => h.run pos pins s σ H Q I (k σ H Q q)⟩
theorem PO.imp {X : Cx} {e : Option Expr} {t t' : TO} (h : PO X e t) (k : ∀ σ H Q, t' σ H Q → t σ H Q) : PO X e t' := ⟨fun pins s σ H Q I q => h.run pins s σ H Q I (k σ H Q q)⟩
theorem PS.imp {X : Cx} {e : Stmt} {t t' : TS} (h : PS X e t) (k : ∀ E σ H, t' E σ H → t E σ H) : PS X e t' := ⟨fun pins s σ H E I q => h.run pins s σ H E I (k E σ H q)⟩
theorem PSs.imp {X : Cx} {e : List Stmt} {t t' : TS} (h : PSs X e t) (k : ∀ E σ H, t' E σ H → t E σ H) : PSs X e t' := ⟨fun pins s σ H E I q => h.run pins s σ H E I (k E σ H q)⟩
theorem PI.imp {X : Cx} {tg e : Expr} {t t' : TI} (h : PI X tg e t) (k : ∀ σ H R, t' σ H R → t σ H R) : PI X tg e t' := ⟨fun pins s σ H R I q => h.run pins s σ H R I (k σ H R q)⟩
theorem PE.ex {X : Cx} {e : Expr} {α : Type} {t : α → TE} (h : ∀ a, PE X e (t a)) : PE X e (fun σ H Q => ∃ a, t a σ H Q) := ⟨fun pins s σ H Q I ⟨a, q⟩ => (h a).run pins s σ H Q I q⟩
theorem PE.exP {X : Cx} {e : Expr} {α : Type} {p : α → Prop} {t : α → TE} (h : ∀ a, p a → PE X e (t a)) : PE X e (fun σ H Q => ∃ a, p a ∧ t a σ H Q) := ⟨fun pins s σ H Q I ⟨a, pa, q⟩ => (h a pa).run pins s σ H Q I q⟩
theorem PT.exP {X : Cx} {e : Expr} {α : Type} {p : α → Prop} {t : α → TT} (h : ∀ a, p a → PT X e (t a)) : PT X e (fun σ H Q => ∃ a, p a ∧ t a σ H Q) := ⟨fun pins s σ H Q I ⟨a, pa, q⟩ => (h a pa).run pins s σ H Q I q⟩
theorem PTs.exP {X : Cx} {e : List Expr} {α : Type} {p : α → Prop} {t : α → TT} (h : ∀ a, p a → PTs X e (t a)) : PTs X e (fun σ H Q => ∃ a, p a ∧ t a σ H Q) := ⟨fun pins s σ H Q I ⟨a, pa, q⟩ => (h a pa).run pins s σ H Q I q⟩
theorem PTs.imp {X : Cx} {e : List Expr} {t t' : TT} (h : PTs X e t) (k : ∀ σ H Q, t' σ H Q → t σ H Q) : PTs X e t' := ⟨fun pins s σ H Q I q => h.run pins s σ H Q I (k σ H Q q)⟩
theorem PSs.exP {X : Cx} {e : List Stmt} {α : Type} {p : α → Prop} {t : α → TS} (h : ∀ a, p a → PSs X e (t a)) : PSs X e (fun E σ H => ∃ a, p a ∧ t a E σ H) := ⟨fun pins s σ H E I ⟨a, pa, q⟩ => (h a pa).run pins s σ H E I q⟩
end L2
namespace Sy
open PySem PySem.Spec PyProof.Rows L2

abbrev Gam := List (Option D)

/-- what is wanted behind an expression: its value stands for g, the state is M' -/
def Res (K : PySem.W.Frag) (F S : Hp) (Q : VK) (g : D) (M' : MS) : Prop := ∀ v S' H', Le S S' → Ok K F S' M' H' → Rep K S' v g → Q v H'
def tEv (K : PySem.W.Frag) (F : Hp) (Γ : Gam) (M : MS) (g : D) (M' : MS) : TE := fun σ H Q => ∃ S, Sl K S Γ σ ∧ Ok K F S M H ∧ Res K F S Q g M'
/-- a new list, not yet settled -/
def tEn (K : PySem.W.Frag) (F : Hp) (Γ : Gam) (M : MS) (ds : List D) (M' : MS) : TE := fun σ H Q => ∃ S, Sl K S Γ σ ∧ Ok K F S M H ∧
  ∀ p xs S' H', Le S S' → Ok K F S' M' H' → S' p = none → F p = none → M' p = none → H' p = some (.lst xs) → RepL K S' xs ds → Q (.ref p) H'
def tTv (K : PySem.W.Frag) (F : Hp) (Γ : Gam) (M : MS) (b : Bool) (M' : MS) : TT := fun σ H Q => ∃ S, Sl K S Γ σ ∧ Ok K F S M H ∧ ∀ S' H', Le S S' → Ok K F S' M' H' → Q b H'
def tAv (K : PySem.W.Frag) (F : Hp) (Γ : Gam) (M : MS) (gs : List D) (M' : MS) : TA := fun σ H Q => ∃ S, Sl K S Γ σ ∧ Ok K F S M H ∧ ∀ vs S' H', Le S S' → Ok K F S' M' H' → RepL K S' vs gs → Q vs H'
def tOv (K : PySem.W.Frag) (F : Hp) (Γ : Gam) (M : MS) (o : Option Int) (M' : MS) : TO := fun σ H Q => ∃ S, Sl K S Γ σ ∧ Ok K F S M H ∧ ∀ S' H', Le S S' → Ok K F S' M' H' → Q o H'

def EV (X : Cx) (Γ : Gam) (M : MS) (e : Expr) (g : D) (M' : MS) : Prop := ∀ F, PE X e (tEv X.K F Γ M g M')
def EN (X : Cx) (Γ : Gam) (M : MS) (e : Expr) (ds : List D) (M' : MS) : Prop := ∀ F, PE X e (tEn X.K F Γ M ds M')
def ET (X : Cx) (Γ : Gam) (M : MS) (e : Expr) (b : Bool) (M' : MS) : Prop := ∀ F, PT X e (tTv X.K F Γ M b M')
def EW (X : Cx) (Γ : Gam) (M : MS) (e : Expr) (b : Bool) (M' : MS) : Prop := ∀ F, PW X e (tTv X.K F Γ M b M')
def EA (X : Cx) (Γ : Gam) (M : MS) (es : List Expr) (gs : List D) (M' : MS) : Prop := ∀ F, PA X es (tAv X.K F Γ M gs M')
def EK (X : Cx) (Γ : Gam) (M : MS) (es : List Keyword) (gs : List D) (M' : MS) : Prop := ∀ F, PK X es (tAv X.K F Γ M gs M')
def EO (X : Cx) (Γ : Gam) (M : MS) (e : Option Expr) (o : Option Int) (M' : MS) : Prop := ∀ F, PO X e (tOv X.K F Γ M o M')

section
variable {K : PySem.W.Frag} {F S H : Hp} {M M' : MS} {Q : VK} {g : D}
theorem Res.now (h : Res K F S Q g M') {v : V} (ok : Ok K F S M' H) (r : Rep K S v g) : Q v H := h v S H (Le.refl _) ok r
theorem Res.scal (h : Res K F S Q g M') {v : V} (ok : Ok K F S M' H) (e : g.scal = some v) : Q v H := h v S H (Le.refl _) ok (Rep.of_scal e)
theorem Res.newT {ds : List D} (h : Res K F S Q (.tup ds) M') {vs : List V} (ok : Ok K F S M' H) (r : RepL K S vs ds) {p : Addr} (hp : H p = none) : Q (.ref p) (upd H p (.tup vs)) :=
  have n := (ok.fresh hp).1
  h _ _ _ (Le.new n) (ok.new hp) (.tup upd_same (r.mono (Le.new n)))
theorem Res.newL {ds : List D} (h : Res K F S Q (.lst ds) M') {vs : List V} (ok : Ok K F S M' H) (r : RepL K S vs ds) {p : Addr} (hp : H p = none) : Q (.ref p) (upd H p (.lst vs)) :=
  have n := (ok.fresh hp).1
  h _ _ _ (Le.new n) (ok.new hp) (.lst upd_same (r.mono (Le.new n)))
theorem Res.up (h : Res K F S Q g M') {T : Hp} (e : Le S T) : Res K F T Q g M' := fun v S' H' l ok r => h v S' H' (e.trans l) ok r
/-- a list object that no one knows yet becomes settled -/
theorem Ok.settle {p : Addr} {xs : List V} (ok : Ok K F S M H) (hS : S p = none) (hF : F p = none) (hM : M p = none) (hp : H p = some (.lst xs)) : Ok K F (upd S p (.lst xs)) M H := by
  refine ⟨fun a u q => ?_, ok.f, fun a ha => ?_, fun a u q => ?_⟩
  · by_cases z : a = p
    · subst z; rw [upd_same] at q; cases q; exact hp
    · rw [upd_ne z] at q; exact ok.s a u q
  · have : a ≠ p := fun z => ha (by rw [z]; exact hF)
    rw [upd_ne this]; exact ok.fs a ha
  · have : a ≠ p := fun z => by rw [z, hM] at q; cases q
    obtain ⟨a1, a2, a3⟩ := ok.m a u q
    exact ⟨a1.mono (Le.new hS) rfl, by rw [upd_ne this]; exact a2, a3⟩
/-- .. or one that changes -/
theorem Ok.thaw {p : Addr} {xs : List V} {ds : List D} (ok : Ok K F S M H) (hS : S p = none) (hF : F p = none) (hM : M p = none) (hp : H p = some (.lst xs)) (r : RepL K S xs ds) : Ok K F S (updM M p (.lst ds)) H := by
  refine ⟨ok.s, ok.f, ok.fs, fun a u q => ?_⟩
  by_cases z : a = p
  · subst z; rw [updM_same] at q; cases q; exact ⟨⟨xs, hp, r⟩, hS, hF⟩
  · rw [updM_ne z] at q; exact ok.m a u q
end

section
variable {X : Cx} {Γ : Gam} {M M' M1 M2 M3 : MS} {e a b c : Expr} {g ga gb gc : D} {ds : List D} {pos : Pos}

theorem ev_of_new (h : EN X Γ M e ds M') : EV X Γ M e (.lst ds) M' := fun F => (h F).imp fun σ H Q ⟨S, sl, ok, r⟩ =>
  ⟨S, sl, ok, fun p xs S' H' l ok' hS hF hM hp rl => r _ _ _ (l.trans (Le.new hS)) (ok'.settle hS hF hM hp) (.lst upd_same (rl.mono (Le.new hS)))⟩

/-! ### names, constants -/
theorem ev_var (i : Nat) {x : Str} (hg : Γ[i]? = some (some g)) (hN : X.N[i]? = some x) (hv : Vis X.env.scope x) (hd : (x == ("__debug__" : Str)) = false) (hcd : (x == ("__classdict__" : Str)) = false) : EV X Γ M (.Name x pos) g M := fun F =>
  (pe_var hN hv hd hcd).imp fun σ H Q ⟨S, sl, ok, r⟩ => by
    obtain ⟨v, h1, h2⟩ := sl.at_ i g hg
    exact ⟨v, h1, r.now ok h2⟩
theorem ev_c {v : V} (h : PE X e (tC v)) (hs : g.scal = some v) : EV X Γ M e g M := fun F => h.imp fun σ H Q ⟨S, sl, ok, r⟩ => r.scal ok hs
theorem ev_int {i : Int} {j} : EV X Γ M (.Constant (.int i) j pos) (.int i) M := ev_c pe_int rfl
theorem ev_bl {i : Bool} {j} : EV X Γ M (.Constant (.bool i) j pos) (.bl i) M := ev_c pe_bl rfl
theorem ev_non {j} : EV X Γ M (.Constant .none j pos) .non M := ev_c pe_non rfl
theorem ev_str {i : Str} {j} : EV X Γ M (.Constant (.str i) j pos) (.str i) M := ev_c pe_str rfl
theorem ev_glob {x : Str} {v : V} (hg : Gl X x) (hm : ∃ u, X.mg x = some u ∧ RelV v u) (hs : g.scal = some v) (hd : (x == ("__debug__" : Str)) = false) : EV X Γ M (.Name x pos) g M := by
  obtain ⟨u, h1, h2⟩ := hm
  exact ev_c (pe_glob hg h1 h2 hd) hs
theorem ev_bltn {x : Str} {v : V} {u : Value} (hg : Gl X x) (hm : X.mg x = none) (hv : bootBuiltins x = some u) (r : RelV v u) (hs : g.scal = some v) (hn : x ≠ "__name__") (hd : (x == ("__debug__" : Str)) = false) : EV X Γ M (.Name x pos) g M := ev_c (pe_bltn hg hm hv r hn hd) hs

/-! ### operators by values -/
/-- r, from values that stand for ga, gb, in the state M, gives one for g in the state M' -/
def RD (K : PySem.W.Frag) (r : R2) (ga gb : D) (M : MS) (g : D) (M' : MS) : Prop := ∀ F S H x y Q, Ok K F S M H → Rep K S x ga → Rep K S y gb → Res K F S Q g M' → r x y H Q
def OpD (X : Cx) (f : Value → Value → Sem Value) (ga gb : D) (M : MS) (g : D) (M' : MS) : Prop := ∃ r, OpR X f r ∧ RD X.K r ga gb M g M'
/-- a new list -/
def RN (K : PySem.W.Frag) (r : R2) (ga gb : D) (M : MS) (ds : List D) : Prop := ∀ F S H x y Q, Ok K F S M H → Rep K S x ga → Rep K S y gb → (∀ p xs, H p = none → RepL K S xs ds → Q (.ref p) (upd H p (.lst xs))) → r x y H Q
def OpN (X : Cx) (f : Value → Value → Sem Value) (ga gb : D) (M : MS) (ds : List D) : Prop := ∃ r, OpR X f r ∧ RN X.K r ga gb M ds
theorem OpD.scal {f : Value → Value → Sem Value} {r : R2} {va vb v : V} (hf : OpR X f r) (ea : ga.scal = some va) (eb : gb.scal = some vb) (e : g.scal = some v) (h : ∀ H (Q : VK), Q v H → r va vb H Q) : OpD X f ga gb M g M :=
  ⟨r, hf, fun F S H x y Q ok rx ry res => by rw [rx.scal ea, ry.scal eb]; exact h H Q (res.scal ok e)⟩

theorem ev_bin {op : Operator} (ha : EV X Γ M a ga M1) (hb : EV X Γ M1 b gb M2) (ho : OpD X (binaryOp op) ga gb M2 g M3) : EV X Γ M (.BinOp a op b pos) g M3 := fun F => by
  obtain ⟨r, h1, h2⟩ := ho
  exact (pe_op h1 (ha F) (hb F)).imp fun σ H Q ⟨S, sl, ok, res⟩ =>
    ⟨S, sl, ok, fun x S1 H1 l1 ok1 rx => ⟨S1, sl.mono l1, ok1, fun y S2 H2 l2 ok2 ry => h2 F S2 H2 x y Q ok2 (rx.mono l2) ry (res.up (l1.trans l2))⟩⟩
/-- the one place where a new, unknown object comes in -/
theorem en_fresh {F S H : Hp} {K : PySem.W.Frag} {Q : VK} (ok : Ok K F S M H) (h : ∀ p xs S' H', Le S S' → Ok K F S' M H' → S' p = none → F p = none → M p = none → H' p = some (.lst xs) → RepL K S' xs ds → Q (.ref p) H') :
    ∀ p xs, H p = none → RepL K S xs ds → Q (.ref p) (upd H p (.lst xs)) := fun p xs hp rl => by
  obtain ⟨h1, h2, h3⟩ := ok.fresh hp
  refine h p xs S _ (Le.refl _) ?_ h1 h2 h3 upd_same rl
  refine ⟨ok.s.updR h1, ok.f.updR h2, ok.fs, fun a u e => ?_⟩
  obtain ⟨a1, a2, a3⟩ := ok.m a u e
  have : a ≠ p := fun z => by rw [z, h3] at e; cases e
  exact ⟨a1.mono (Le.refl _) (upd_ne this), a2, a3⟩
theorem en_bin {op : Operator} (ha : EV X Γ M a ga M1) (hb : EV X Γ M1 b gb M2) (ho : OpN X (binaryOp op) ga gb M2 ds) : EN X Γ M (.BinOp a op b pos) ds M2 := fun F => by
  obtain ⟨r, h1, h2⟩ := ho
  exact (pe_op h1 (ha F) (hb F)).imp fun σ H Q ⟨S, sl, ok, res⟩ =>
    ⟨S, sl, ok, fun x S1 H1 l1 ok1 rx => ⟨S1, sl.mono l1, ok1, fun y S2 H2 l2 ok2 ry => h2 F S2 H2 x y Q ok2 (rx.mono l2) ry (en_fresh ok2 fun p xs S' H' l => res p xs S' H' ((l1.trans l2).trans l))⟩⟩
theorem ev_cmp {op : CmpOp} (ha : EV X Γ M a ga M1) (hb : EV X Γ M1 b gb M2) (ho : OpD X (compareOp op) ga gb M2 g M3) (hm : behindInMarks op b = false) : EV X Γ M (.Compare a [op] [b] pos) g M3 := fun F => by
  obtain ⟨r, h1, h2⟩ := ho
  exact (pe_cmpR h1 (ha F) (hb F) hm).imp fun σ H Q ⟨S, sl, ok, res⟩ =>
    ⟨S, sl, ok, fun x S1 H1 l1 ok1 rx => ⟨S1, sl.mono l1, ok1, fun y S2 H2 l2 ok2 ry => h2 F S2 H2 x y Q ok2 (rx.mono l2) ry (res.up (l1.trans l2))⟩⟩
theorem et_cmp {op : CmpOp} {t : Bool} (ha : EV X Γ M a ga M1) (hb : EV X Γ M1 b gb M2) (ho : OpD X (compareOp op) ga gb M2 (.bl t) M3) (hm : behindInMarks op b = false) : ET X Γ M (.Compare a [op] [b] pos) t M3 := fun F => by
  obtain ⟨r, h1, h2⟩ := ho
  exact (pt_cmpR h1 (ha F) (hb F) hm).imp fun σ H Q ⟨S, sl, ok, res⟩ =>
    ⟨S, sl, ok, fun x S1 H1 l1 ok1 rx => ⟨S1, sl.mono l1, ok1, fun y S2 H2 l2 ok2 ry => h2 F S2 H2 x y _ ok2 (rx.mono l2) ry
      fun v S3 H3 l3 ok3 rv => ⟨t, rv.blE, res S3 H3 ((l1.trans l2).trans l3) ok3⟩⟩⟩
/-- a op1 b op2 c -/
theorem ev_chain {op op' : CmpOp} {t u : Bool} (ha : EV X Γ M a ga M) (hb : EV X Γ M b gb M) (h1 : OpD X (compareOp op) ga gb M (.bl t) M) (hc : t = true → EV X Γ M c gc M) (h2 : t = true → OpD X (compareOp op') gb gc M (.bl u) M)
    (hm : lastMarks [op, op'] [b, c] = false) : EV X Γ M (.Compare a [op, op'] [b, c] pos) (.bl (t && u)) M := fun F => by
  obtain ⟨r, o1, k1⟩ := h1
  cases t with
  | true =>
    obtain ⟨r', o2, k2⟩ := h2 rfl
    exact (pe_chain o1 o2 (ha F) (hb F) (hc rfl F) hm).imp fun σ H Q ⟨S, sl, ok, res⟩ =>
      ⟨S, sl, ok, fun x S1 H1 l1 ok1 rx => ⟨S1, sl.mono l1, ok1, fun y S2 H2 l2 ok2 ry => k1 F S2 H2 x y _ ok2 (rx.mono l2) ry fun z S3 H3 l3 ok3 rz =>
        ⟨true, rz.blE, by
          refine iteT ?_
          exact ⟨S3, sl.mono ((l1.trans l2).trans l3), ok3, fun w S4 H4 l4 ok4 rw' => k2 F S4 H4 y w Q ok4 (ry.mono (l3.trans l4)) rw' (res.up (((l1.trans l2).trans l3).trans l4))⟩⟩⟩⟩
  | false =>
    -- the last part is never come to
    have hn : PE X c (fun _ _ _ => False) := ⟨fun _ _ _ _ _ _ q => q.elim⟩
    have on : OpR X (compareOp op') (fun _ _ _ _ => False) := fun _ _ _ _ _ _ _ _ _ _ _ _ q => q.elim
    exact (pe_chain o1 on (ha F) (hb F) hn hm).imp fun σ H Q ⟨S, sl, ok, res⟩ =>
      ⟨S, sl, ok, fun x S1 H1 l1 ok1 rx => ⟨S1, sl.mono l1, ok1, fun y S2 H2 l2 ok2 ry => k1 F S2 H2 x y _ ok2 (rx.mono l2) ry fun z S3 H3 l3 ok3 rz =>
        ⟨false, rz.blE, by
          refine iteF ?_
          exact res _ S3 H3 ((l1.trans l2).trans l3) ok3 (.bl false)⟩⟩⟩
theorem et_of {t : Bool} (h : EV X Γ M e (.bl t) M') (he : ∀ whole, isTrue e X.env whole = (do let v ← whole; standAt e.pos; holding [v] (truthy v))) : ET X Γ M e t M' := fun F =>
  (pt_val (h F) he).imp fun σ H Q ⟨S, sl, ok, res⟩ => ⟨S, sl, ok, fun v S' H' l ok' r => ⟨t, r.blE, res S' H' l ok'⟩⟩
theorem et_chain {op op' : CmpOp} {t u : Bool} (ha : EV X Γ M a ga M) (hb : EV X Γ M b gb M) (h1 : OpD X (compareOp op) ga gb M (.bl t) M) (hc : t = true → EV X Γ M c gc M) (h2 : t = true → OpD X (compareOp op') gb gc M (.bl u) M)
    (hm : lastMarks [op, op'] [b, c] = false) : ET X Γ M (.Compare a [op, op'] [b, c] pos) (t && u) M := fun F => by
  obtain ⟨r, o1, k1⟩ := h1
  cases t with
  | true =>
    obtain ⟨r', o2, k2⟩ := h2 rfl
    exact (pt_chain o1 o2 (ha F) (hb F) (hc rfl F) hm).imp fun σ H Q ⟨S, sl, ok, res⟩ =>
      ⟨S, sl, ok, fun x S1 H1 l1 ok1 rx => ⟨S1, sl.mono l1, ok1, fun y S2 H2 l2 ok2 ry => k1 F S2 H2 x y _ ok2 (rx.mono l2) ry fun z S3 H3 l3 ok3 rz =>
        ⟨true, rz.blE, by
          refine iteT ?_
          exact ⟨S3, sl.mono ((l1.trans l2).trans l3), ok3, fun w S4 H4 l4 ok4 rw' => k2 F S4 H4 y w _ ok4 (ry.mono (l3.trans l4)) rw'
            fun z' S5 H5 l5 ok5 rz' => ⟨u, rz'.blE, res S5 H5 ((((l1.trans l2).trans l3).trans l4).trans l5) ok5⟩⟩⟩⟩⟩
  | false =>
    have hn : PE X c (fun _ _ _ => False) := ⟨fun _ _ _ _ _ _ q => q.elim⟩
    have on : OpR X (compareOp op') (fun _ _ _ _ => False) := fun _ _ _ _ _ _ _ _ _ _ _ _ q => q.elim
    exact (pt_chain o1 on (ha F) (hb F) hn hm).imp fun σ H Q ⟨S, sl, ok, res⟩ =>
      ⟨S, sl, ok, fun x S1 H1 l1 ok1 rx => ⟨S1, sl.mono l1, ok1, fun y S2 H2 l2 ok2 ry => k1 F S2 H2 x y _ ok2 (rx.mono l2) ry fun z S3 H3 l3 ok3 rz =>
        ⟨false, rz.blE, by
          refine iteF ?_
          exact ⟨false, rfl, res S3 H3 ((l1.trans l2).trans l3) ok3⟩⟩⟩⟩

/-! ### and, or, not, if else -/
theorem ew_and1 {t : Bool} (ha : ET X Γ M a t M') : EW X Γ M (.BoolOp .And [a] pos) t M' := fun F => pw_and1 (ha F)
theorem ew_or1 {t : Bool} (ha : ET X Γ M a t M') : EW X Γ M (.BoolOp .Or [a] pos) t M' := fun F => pw_or1 (ha F)
theorem pw_imp {t t' : TT} (h : PW X e t) (k : ∀ σ H Q, t' σ H Q → t σ H Q) : PW X e t' := ⟨fun w pins s σ H Q I q => h.run w pins s σ H Q I (k σ H Q q)⟩
theorem pw_dead : PW X e (fun _ _ _ => False) := ⟨fun _ _ _ _ _ _ _ q => q.elim⟩
theorem ew_and {t u : Bool} {rest : List Expr} (ha : ET X Γ M a t M1) (hb : t = true → EW X Γ M1 (.BoolOp .And (b :: rest) pos) u M2) (hf : t = false → M2 = M1) : EW X Γ M (.BoolOp .And (a :: b :: rest) pos) (t && u) M2 := fun F => by
  cases t with
  | true => exact pw_imp (pw_and (ha F) (hb rfl F)) fun σ H Q ⟨S, sl, ok, res⟩ => ⟨S, sl, ok, fun S1 H1 l1 ok1 => by
      refine iteT ?_
      exact ⟨S1, sl.mono l1, ok1, fun S2 H2 l2 ok2 => res S2 H2 (l1.trans l2) ok2⟩⟩
  | false =>
    rw [hf rfl]
    exact pw_imp (pw_and (ha F) pw_dead) fun σ H Q ⟨S, sl, ok, res⟩ => ⟨S, sl, ok, fun S1 H1 l1 ok1 => by
      refine iteF ?_
      exact res S1 H1 l1 ok1⟩
theorem ew_or {t u : Bool} {rest : List Expr} (ha : ET X Γ M a t M1) (hb : t = false → EW X Γ M1 (.BoolOp .Or (b :: rest) pos) u M2) (hf : t = true → M2 = M1) : EW X Γ M (.BoolOp .Or (a :: b :: rest) pos) (t || u) M2 := fun F => by
  cases t with
  | false => exact pw_imp (pw_or (ha F) (hb rfl F)) fun σ H Q ⟨S, sl, ok, res⟩ => ⟨S, sl, ok, fun S1 H1 l1 ok1 => by
      refine iteF ?_
      exact ⟨S1, sl.mono l1, ok1, fun S2 H2 l2 ok2 => res S2 H2 (l1.trans l2) ok2⟩⟩
  | true =>
    rw [hf rfl]
    exact pw_imp (pw_or (ha F) pw_dead) fun σ H Q ⟨S, sl, ok, res⟩ => ⟨S, sl, ok, fun S1 H1 l1 ok1 => by
      refine iteT ?_
      exact res S1 H1 l1 ok1⟩
theorem et_w {t : Bool} (h : EW X Γ M e t M') : ET X Γ M e t M' := fun F => (h F).pt
theorem et_not {t : Bool} (h : ET X Γ M a t M') : ET X Γ M (.UnaryOp .Not a pos) (!t) M' := fun F => (pt_not (h F)).imp fun σ H Q ⟨S, sl, ok, res⟩ => ⟨S, sl, ok, fun S1 H1 l1 ok1 => res S1 H1 l1 ok1⟩
theorem ev_one {op} (h : EV X Γ M a g M') : EV X Γ M (.BoolOp op [a] pos) g M' := fun F => pe_one (h F)
theorem pe_dead : PE X e (fun _ _ _ => False) := ⟨fun _ _ _ _ _ _ q => q.elim⟩
theorem ev_and {t : Bool} {rest : List Expr} (ha : EV X Γ M a (.bl t) M1) (hb : t = true → EV X Γ M1 (.BoolOp .And (b :: rest) pos) g M2) (hf : t = false → g = .bl false ∧ M2 = M1) : EV X Γ M (.BoolOp .And (a :: b :: rest) pos) g M2 := fun F => by
  cases t with
  | true => exact (pe_and (ha F) (hb rfl F)).imp fun σ H Q ⟨S, sl, ok, res⟩ => ⟨S, sl, ok, fun v S1 H1 l1 ok1 r1 => ⟨true, r1.blE, by
      refine iteT ?_
      exact ⟨S1, sl.mono l1, ok1, res.up l1⟩⟩⟩
  | false =>
    obtain ⟨h1, h2⟩ := hf rfl
    rw [h1, h2]
    exact (pe_and (ha F) pe_dead).imp fun σ H Q ⟨S, sl, ok, res⟩ => ⟨S, sl, ok, fun v S1 H1 l1 ok1 r1 => ⟨false, r1.blE, by
      refine iteF ?_
      exact res _ S1 H1 l1 ok1 (.bl false)⟩⟩
theorem ev_or {t : Bool} {rest : List Expr} (ha : EV X Γ M a (.bl t) M1) (hb : t = false → EV X Γ M1 (.BoolOp .Or (b :: rest) pos) g M2) (hf : t = true → g = .bl true ∧ M2 = M1) : EV X Γ M (.BoolOp .Or (a :: b :: rest) pos) g M2 := fun F => by
  cases t with
  | false => exact (pe_or (ha F) (hb rfl F)).imp fun σ H Q ⟨S, sl, ok, res⟩ => ⟨S, sl, ok, fun v S1 H1 l1 ok1 r1 => ⟨false, r1.blE, by
      refine iteF ?_
      exact ⟨S1, sl.mono l1, ok1, res.up l1⟩⟩⟩
  | true =>
    obtain ⟨h1, h2⟩ := hf rfl
    rw [h1, h2]
    exact (pe_or (ha F) pe_dead).imp fun σ H Q ⟨S, sl, ok, res⟩ => ⟨S, sl, ok, fun v S1 H1 l1 ok1 r1 => ⟨true, r1.blE, by
      refine iteT ?_
      exact res _ S1 H1 l1 ok1 (.bl true)⟩⟩
theorem ev_not {t : Bool} (h : EV X Γ M a (.bl t) M') : EV X Γ M (.UnaryOp .Not a pos) (.bl (!t)) M' := fun F =>
  (pe_not (h F)).imp fun σ H Q ⟨S, sl, ok, res⟩ => ⟨S, sl, ok, fun v S1 H1 l1 ok1 r1 => ⟨t, r1.blE, res _ S1 H1 l1 ok1 (.bl _)⟩⟩
theorem ev_ifT {t : Bool} (h : ET X Γ M c t M1) (ht : t = true) (ha : EV X Γ M1 a g M2) : EV X Γ M (.IfExp c a b pos) g M2 := fun F => by
  subst ht
  exact (pe_ifExp (h F) (ha F) pe_dead).imp fun σ H Q ⟨S, sl, ok, res⟩ => ⟨S, sl, ok, fun S1 H1 l1 ok1 => by
    refine iteT ?_
    exact ⟨S1, sl.mono l1, ok1, res.up l1⟩⟩
theorem ev_ifF {t : Bool} (h : ET X Γ M c t M1) (ht : t = false) (hb : EV X Γ M1 b g M2) : EV X Γ M (.IfExp c a b pos) g M2 := fun F => by
  subst ht
  exact (pe_ifExp (h F) pe_dead (hb F)).imp fun σ H Q ⟨S, sl, ok, res⟩ => ⟨S, sl, ok, fun S1 H1 l1 ok1 => by
    refine iteF ?_
    exact ⟨S1, sl.mono l1, ok1, res.up l1⟩⟩
theorem ev_if {t : Bool} (h : ET X Γ M c t M1) (ha : t = true → EV X Γ M1 a ga M2) (hb : t = false → EV X Γ M1 b gb M3) : EV X Γ M (.IfExp c a b pos) (if t then ga else gb) (if t then M2 else M3) := by
  cases t with
  | true => exact ev_ifT h rfl (ha rfl)
  | false => exact ev_ifF h rfl (hb rfl)

/-! ### argument lists, displays -/
variable {es : List Expr} {gs : List D}
theorem ea_nil : EA X Γ M [] [] M := fun F => pa_nil.imp fun σ H Q ⟨S, sl, ok, res⟩ => res [] S H (Le.refl _) ok .nil
theorem ea_cons (ha : EV X Γ M e g M1) (hr : EA X Γ M1 es gs M2) (hs : starEach (e :: es) X.env = (false, eval e X.env) :: starEach es X.env) : EA X Γ M (e :: es) (g :: gs) M2 := fun F =>
  (pa_cons (ha F) (hr F) hs).imp fun σ H Q ⟨S, sl, ok, res⟩ => ⟨S, sl, ok, fun v S1 H1 l1 ok1 r1 => ⟨S1, sl.mono l1, ok1, fun vs S2 H2 l2 ok2 r2 => res _ S2 H2 (l1.trans l2) ok2 (.cons (r1.mono l2) r2)⟩⟩
theorem ek_nil : EK X Γ M [] [] M := fun F => PK.imp pk_nil fun σ H Q ⟨S, sl, ok, res⟩ => res [] S H (Le.refl _) ok .nil
theorem ek_cons {kws : List Keyword} {nm : Option Str} {kpos : Pos} (ha : EV X Γ M e g M1) (hr : EK X Γ M1 kws gs M2) : EK X Γ M (⟨nm, e, kpos⟩ :: kws) (g :: gs) M2 := fun F =>
  PK.imp (pk_cons (ha F) (hr F)) fun σ H Q ⟨S, sl, ok, res⟩ => ⟨S, sl, ok, fun v S1 H1 l1 ok1 r1 => ⟨S1, sl.mono l1, ok1, fun vs S2 H2 l2 ok2 r2 => res _ S2 H2 (l1.trans l2) ok2 (.cons (r1.mono l2) r2)⟩⟩
theorem ev_tup {x1} (h : EA X Γ M es gs M') (hl : gs.length ≤ 1000) : EV X Γ M (.Tuple es x1 pos) (.tup gs) M' := fun F => (pe_tup (h F)).imp fun σ H Q ⟨S, sl, ok, res⟩ =>
  ⟨S, sl, ok, fun vs S1 H1 l1 ok1 r1 => ⟨by rw [r1.len]; exact Nat.le_of_lt (small1000 hl), fun p hp => (res.up l1).newT ok1 r1 hp⟩⟩
theorem en_lst (h : EA X Γ M es gs M') (hl : gs.length ≤ 1000) : EN X Γ M (.List es pos) gs M' := fun F => (pe_lst (h F)).imp fun σ H Q ⟨S, sl, ok, res⟩ =>
  ⟨S, sl, ok, fun vs S1 H1 l1 ok1 r1 => ⟨by rw [r1.len]; exact Nat.le_of_lt (small1000 hl), fun p hp => en_fresh ok1 (fun p xs S' H' l => res p xs S' H' (l1.trans l)) p vs hp r1⟩⟩
theorem eo_none : EO X Γ M none none M := fun F => PO.imp po_none fun σ H Q ⟨S, sl, ok, res⟩ => res S H (Le.refl _) ok
theorem eo_some {i : Int} (h : EV X Γ M e (.int i) M') : EO X Γ M (some e) (some i) M' := fun F => PO.imp (po_some (h F)) fun σ H Q ⟨S, sl, ok, res⟩ => ⟨S, sl, ok, fun v S1 H1 l1 ok1 r1 => ⟨i, r1.intE, res S1 H1 l1 ok1⟩⟩
end
end Sy

set_option Elab.async false
set_option linter.all false
set_option maxRecDepth 100000
set_option maxHeartbeats 2000000
/-! Sy3: statements, calls, loops -/
namespace Sy
open PySem PySem.Spec PyProof.Rows L2

structure Post where
  nx : Gam → MS → Prop := fun _ _ => False
  rt : D → MS → Prop := fun _ _ => False
  bk : Gam → MS → Prop := fun _ _ => False
  ct : Gam → MS → Prop := fun _ _ => False
  rn : List D → MS → Prop := fun _ _ => False

/-- the ends of a statement that is reached with S -/
structure Fin (K : PySem.W.Frag) (F S : Hp) (P : Post) (E : Ends) : Prop where
  nx : ∀ σ' H' S' Γ' M', P.nx Γ' M' → Le S S' → Sl K S' Γ' σ' → Ok K F S' M' H' → E.nx σ' H'
  rt : ∀ v H' S' d M', P.rt d M' → Le S S' → Ok K F S' M' H' → Rep K S' v d → E.rt v H'
  bk : ∀ σ' H' S' Γ' M', P.bk Γ' M' → Le S S' → Sl K S' Γ' σ' → Ok K F S' M' H' → E.bk σ' H'
  ct : ∀ σ' H' S' Γ' M', P.ct Γ' M' → Le S S' → Sl K S' Γ' σ' → Ok K F S' M' H' → E.ct σ' H'
  rn : ∀ p xs H' S' ds M', P.rn ds M' → Le S S' → Ok K F S' M' H' → S' p = none → F p = none → M' p = none → H' p = some (.lst xs) → RepL K S' xs ds → E.rt (.ref p) H'
def tSv (K : PySem.W.Frag) (F : Hp) (Γ : Gam) (M : MS) (P : Post) : TS := fun E σ H => ∃ S, Sl K S Γ σ ∧ Ok K F S M H ∧ Fin K F S P E
theorem Fin.up {K : PySem.W.Frag} {F S T : Hp} {P : Post} {E : Ends} (h : Fin K F S P E) (l : Le S T) : Fin K F T P E :=
  ⟨fun a b c d e p l' => h.nx a b c d e p (l.trans l'), fun a b c d e p l' => h.rt a b c d e p (l.trans l'), fun a b c d e p l' => h.bk a b c d e p (l.trans l'), fun a b c d e p l' => h.ct a b c d e p (l.trans l'), fun p xs a b c d q l' => h.rn p xs a b c d q (l.trans l')⟩

def S1 (X : Cx) (Γ : Gam) (M : MS) (st : Stmt) (P : Post) : Prop := ∀ F, PS X st (tSv X.K F Γ M P)
def SS (X : Cx) (Γ : Gam) (M : MS) (sts : List Stmt) (P : Post) : Prop := ∀ F, PSs X sts (tSv X.K F Γ M P)

section
variable {X : Cx} {Γ : Gam} {M M' M1 M2 M3 : MS} {e a b c : Expr} {g ga gb gc : D} {ds : List D} {pos : Pos} {P : Post} {st : Stmt} {rest : List Stmt}
theorem ss_nil (h : P.nx Γ M) : SS X Γ M [] P := fun F => pss_nil.imp fun E σ H ⟨S, sl, ok, fin⟩ => fin.nx σ H S Γ M h (Le.refl _) sl ok
theorem ss_cons {N : Gam → MS → Prop} (h1 : S1 X Γ M st { P with nx := N }) (h2 : ∀ Γ' M', N Γ' M' → SS X Γ' M' rest P) : SS X Γ M (st :: rest) P := fun F => by
  have hr : PSs X rest (fun E σ H => ∃ q : Gam × MS, N q.1 q.2 ∧ tSv X.K F q.1 q.2 P E σ H) := PSs.exP fun q hq => h2 q.1 q.2 hq F
  exact (pss_cons (h1 F) hr).imp fun E σ H ⟨S, sl, ok, fin⟩ =>
    ⟨S, sl, ok, ⟨fun σ' H' S' Γ' M' n l sl' ok' => ⟨(Γ', M'), n, S', sl', ok', fin.up l⟩, fun v H' S' d M' p l => fin.rt v H' S' d M' p l, fun a b c d e p => fin.bk a b c d e p, fun a b c d e p => fin.ct a b c d e p, fun p xs a b c d q => fin.rn p xs a b c d q⟩⟩
/-- one statement whose end is just one state -/
theorem ss_step {Γ' : Gam} (h1 : S1 X Γ M st { P with nx := fun a b => a = Γ' ∧ b = M' }) (h2 : SS X Γ' M' rest P) : SS X Γ M (st :: rest) P :=
  ss_cons h1 fun _ _ ⟨e1, e2⟩ => by subst e1; subst e2; exact h2
theorem s1_mono {P' : Post} (h : S1 X Γ M st P) (h1 : ∀ a b, P.nx a b → P'.nx a b) (h2 : ∀ a b, P.rt a b → P'.rt a b) (h3 : ∀ a b, P.bk a b → P'.bk a b) (h4 : ∀ a b, P.ct a b → P'.ct a b) (h5 : ∀ a b, P.rn a b → P'.rn a b := by intro _ _ h; exact h) : S1 X Γ M st P' := fun F =>
  (h F).imp fun E σ H ⟨S, sl, ok, fin⟩ => ⟨S, sl, ok, ⟨fun a b c d e p => fin.nx a b c d e (h1 _ _ p), fun a b c d e p => fin.rt a b c d e (h2 _ _ p), fun a b c d e p => fin.bk a b c d e (h3 _ _ p), fun a b c d e p => fin.ct a b c d e (h4 _ _ p), fun p xs a b c d q => fin.rn p xs a b c d (h5 _ _ q)⟩⟩
theorem ss_mono {P' : Post} {sts : List Stmt} (h : SS X Γ M sts P) (h1 : ∀ a b, P.nx a b → P'.nx a b) (h2 : ∀ a b, P.rt a b → P'.rt a b) (h3 : ∀ a b, P.bk a b → P'.bk a b) (h4 : ∀ a b, P.ct a b → P'.ct a b) (h5 : ∀ a b, P.rn a b → P'.rn a b := by intro _ _ h; exact h) : SS X Γ M sts P' := fun F =>
  (h F).imp fun E σ H ⟨S, sl, ok, fin⟩ => ⟨S, sl, ok, ⟨fun a b c d e p => fin.nx a b c d e (h1 _ _ p), fun a b c d e p => fin.rt a b c d e (h2 _ _ p), fun a b c d e p => fin.bk a b c d e (h3 _ _ p), fun a b c d e p => fin.ct a b c d e (h4 _ _ p), fun p xs a b c d q => fin.rn p xs a b c d (h5 _ _ q)⟩⟩

/-! ### x = e -/
theorem s1_set (i : Nat) {x : Str} {px : Pos} (hN : X.N.Nodup) (hi : X.N[i]? = some x) (hx : Loc X.env.scope x) (hf : X.fn x = true ∨ X.env.scope.names.lookup x = some .local) (he : EV X Γ M e g M')
    (hs : swapsWith e (some (.Name x px)) pos.line X.env = pure false) (h : P.nx (Γ.set i (some g)) M') : S1 X Γ M (.Assign [.Name x px] e pos) P := fun F =>
  (ps_set hN hi hx (he F) hs hf).imp fun E σ H ⟨S, sl, ok, fin⟩ => ⟨S, sl, ok, fun v S' H' l ok' r => fin.nx _ _ S' _ M' h l ((sl.mono l).set r) ok'⟩
theorem ss_set (i : Nat) {x : Str} {px : Pos} (he : EV X Γ M e g M') (hN : X.N.Nodup) (hi : X.N[i]? = some x) (hx : Loc X.env.scope x) (hf : X.fn x = true ∨ X.env.scope.names.lookup x = some .local)
    (hs : swapsWith e (some (.Name x px)) pos.line X.env = pure false) (h : SS X (Γ.set i (some g)) M' rest P) : SS X Γ M (.Assign [.Name x px] e pos :: rest) P :=
  ss_step (s1_set i hN hi hx hf he hs ⟨rfl, rfl⟩) h
/-- x = a new list that will change -/
theorem ss_setN (i : Nat) {x : Str} {px : Pos} (he : EN X Γ M e ds M') (hN : X.N.Nodup) (hi : X.N[i]? = some x) (hx : Loc X.env.scope x) (hf : X.fn x = true ∨ X.env.scope.names.lookup x = some .local)
    (hs : swapsWith e (some (.Name x px)) pos.line X.env = pure false) (h : ∀ p, M' p = none → SS X (Γ.set i (some (.raw (.ref p)))) (updM M' p (.lst ds)) rest P) : SS X Γ M (.Assign [.Name x px] e pos :: rest) P :=
  ss_cons (N := fun Γ' M2 => ∃ p, M' p = none ∧ Γ' = Γ.set i (some (.raw (.ref p))) ∧ M2 = updM M' p (.lst ds))
    (fun F => (ps_set hN hi hx (he F) hs hf).imp fun E σ H ⟨S, sl, ok, fin⟩ => ⟨S, sl, ok, fun p xs S' H' l ok' hS hF hM hp rl =>
      fin.nx _ _ S' _ _ ⟨p, hM, rfl, rfl⟩ l ((sl.mono l).set (.raw _)) (ok'.thaw hS hF hM hp rl)⟩)
    fun Γ' M2 ⟨p, h1, h2, h3⟩ => by subst h2; subst h3; exact h p h1
/-- from here on a list changes no more -/
theorem ss_freeze (i : Nat) {p : Addr} {sts : List Stmt} (hi : Γ[i]? = some (some (.raw (.ref p)))) (hp : M p = some (.lst ds)) (h : SS X (Γ.set i (some (.lst ds))) (delM M p) sts P) : SS X Γ M sts P := fun F =>
  (h F).imp fun E σ H ⟨S, sl, ok, fin⟩ => by
    obtain ⟨T, l, ok', r⟩ := ok.freeze hp
    obtain ⟨v, h1, h2⟩ := sl.at_ i _ hi
    have hv := h2.rawE
    subst hv
    refine ⟨T, ?_, ok', fin.up l⟩
    have := (sl.mono l).set (i := i) r
    have e : σ.set i (some (V.ref p)) = σ := by
      apply List.ext_getElem?
      intro j
      by_cases z : i = j
      · subst z
        rw [List.getElem?_set_self (List.getElem?_eq_some_iff.mp h1).1, h1]
      · rw [List.getElem?_set_ne z]
    rw [e] at this
    exact this
theorem ss_freezeI (i : Nat) {p C : Addr} {ns : List Str} {sts : List Stmt} (hi : Γ[i]? = some (some (.raw (.ref p)))) (hp : M p = some (.ins C ns ds)) (h : SS X (Γ.set i (some (.obj C ns ds))) (delM M p) sts P) : SS X Γ M sts P := fun F =>
  (h F).imp fun E σ H ⟨S, sl, ok, fin⟩ => by
    obtain ⟨T, l, ok', r⟩ := ok.freezeI hp
    obtain ⟨v, h1, h2⟩ := sl.at_ i _ hi
    have hv := h2.rawE
    subst hv
    refine ⟨T, ?_, ok', fin.up l⟩
    have := (sl.mono l).set (i := i) r
    have e : σ.set i (some (V.ref p)) = σ := by
      apply List.ext_getElem?
      intro j
      by_cases z : i = j
      · subst z
        rw [List.getElem?_set_self (List.getElem?_eq_some_iff.mp h1).1, h1]
      · rw [List.getElem?_set_ne z]
    rw [e] at this
    exact this
/-- a slot is forgotten -/
theorem ss_forget (i : Nat) {sts : List Stmt} (h : SS X (Γ.set i none) M sts P) : SS X Γ M sts P := fun F => (h F).imp fun E σ H ⟨S, sl, ok, fin⟩ => by
  refine ⟨S, ?_, ok, fin⟩
  refine ⟨by rw [List.length_set]; exact sl.len, fun j d q => ?_⟩
  by_cases z : i = j
  · subst z
    by_cases hl : i < Γ.length
    · rw [List.getElem?_set_self hl] at q; cases q
    · rw [List.getElem?_eq_none (by rw [List.length_set]; omega)] at q; cases q
  · rw [List.getElem?_set_ne z] at q; exact sl.at_ j d q
theorem ss_less {sts : List Stmt} (h : SS X Γ M' sts P) (k : ∀ a o, M' a = some o → M a = some o) : SS X Γ M sts P := fun F => (h F).imp fun E σ H ⟨S, sl, ok, fin⟩ => ⟨S, sl, ok.less k, fin⟩

/-! ### a, b = x, y -/
theorem ss_par (i j : Nat) {x y : Str} {px py pt : Pos} {kt k2 pt2} (h1 : EV X Γ M a ga M1) (h2 : EV X Γ M1 b gb M2) (hc : X.calm = true) (hN : X.N.Nodup) (hi : X.N[i]? = some x) (hj : X.N[j]? = some y) (hij : i ≠ j)
    (hx : X.env.scope.names.lookup x = some .local) (hy : X.env.scope.names.lookup y = some .local)
    (hw : swappedStores [.Tuple [.Name x px, .Name y py] kt pt] (.Tuple [a, b] k2 pt2) X.env = pure (some [x, y]))
    (hs : swapsWithSole [.Tuple [.Name x px, .Name y py] kt pt] (.Tuple [a, b] k2 pt2) pos.line X.env = pure false)
    (e1 : starEach [a, b] X.env = (false, eval a X.env) :: starEach [b] X.env) (e2 : starEach [b] X.env = (false, eval b X.env) :: starEach [] X.env)
    (h : SS X ((Γ.set i (some ga)).set j (some gb)) M2 rest P) : SS X Γ M (.Assign [.Tuple [.Name x px, .Name y py] kt pt] (.Tuple [a, b] k2 pt2) pos :: rest) P :=
  ss_step (fun F => (ps_par hc hN hi hj hij hx hy (pa_cons (h1 F) (pa_cons (h2 F) pa_nil e2) e1) hw hs).imp fun E σ H ⟨S, sl, ok, fin⟩ =>
    ⟨S, sl, ok, fun v S1 H1 l1 ok1 r1 => ⟨S1, sl.mono l1, ok1, fun w S2 H2 l2 ok2 r2 => ⟨v, w, rfl, fin.nx _ _ S2 _ _ ⟨rfl, rfl⟩ (l1.trans l2) (((sl.mono (l1.trans l2)).set (r1.mono l2)).set r2) ok2⟩⟩⟩) h
/-- .. the first a new list that will change -/
theorem ss_parN1 (i j : Nat) {x y : Str} {px py pt : Pos} {kt k2 pt2} (h1 : EN X Γ M a ds M1) (h2 : ∀ p, M1 p = none → EV X Γ (updM M1 p (.lst ds)) b gb (updM M2 p (.lst ds))) (hc : X.calm = true) (hN : X.N.Nodup) (hi : X.N[i]? = some x) (hj : X.N[j]? = some y) (hij : i ≠ j)
    (hx : X.env.scope.names.lookup x = some .local) (hy : X.env.scope.names.lookup y = some .local)
    (hw : swappedStores [.Tuple [.Name x px, .Name y py] kt pt] (.Tuple [a, b] k2 pt2) X.env = pure (some [x, y]))
    (hs : swapsWithSole [.Tuple [.Name x px, .Name y py] kt pt] (.Tuple [a, b] k2 pt2) pos.line X.env = pure false)
    (e1 : starEach [a, b] X.env = (false, eval a X.env) :: starEach [b] X.env) (e2 : starEach [b] X.env = (false, eval b X.env) :: starEach [] X.env)
    (h : ∀ p, M1 p = none → SS X ((Γ.set i (some (.raw (.ref p)))).set j (some gb)) (updM M2 p (.lst ds)) rest P) : SS X Γ M (.Assign [.Tuple [.Name x px, .Name y py] kt pt] (.Tuple [a, b] k2 pt2) pos :: rest) P :=
  ss_cons (N := fun Γ' M3 => ∃ p, M1 p = none ∧ Γ' = (Γ.set i (some (.raw (.ref p)))).set j (some gb) ∧ M3 = updM M2 p (.lst ds))
    (fun F => by
      have hb : PE X b (fun σ H Q => ∃ p, M1 p = none ∧ tEv X.K F Γ (updM M1 p (.lst ds)) gb (updM M2 p (.lst ds)) σ H Q) := PE.exP fun p hp => h2 p hp F
      exact (ps_par hc hN hi hj hij hx hy (pa_cons (h1 F) (pa_cons hb pa_nil e2) e1) hw hs).imp fun E σ H ⟨S, sl, ok, fin⟩ =>
        ⟨S, sl, ok, fun p xs S1 H1 l1 ok1 hS hF hM hp rl => ⟨p, hM, S1, sl.mono l1, ok1.thaw hS hF hM hp rl, fun w S2 H2 l2 ok2 r2 => ⟨.ref p, w, rfl, fin.nx _ _ S2 _ _ ⟨p, hM, rfl, rfl⟩ (l1.trans l2) (((sl.mono (l1.trans l2)).set (.raw _)).set r2) ok2⟩⟩⟩)
    fun Γ' M3 ⟨p, k1, k2, k3⟩ => by subst k2; subst k3; exact h p k1
/-- .. the second a new list that will change -/
theorem ss_parN2 (i j : Nat) {x y : Str} {px py pt : Pos} {kt k2 pt2} (h1 : EV X Γ M a ga M1) (h2 : EN X Γ M1 b ds M2) (hc : X.calm = true) (hN : X.N.Nodup) (hi : X.N[i]? = some x) (hj : X.N[j]? = some y) (hij : i ≠ j)
    (hx : X.env.scope.names.lookup x = some .local) (hy : X.env.scope.names.lookup y = some .local)
    (hw : swappedStores [.Tuple [.Name x px, .Name y py] kt pt] (.Tuple [a, b] k2 pt2) X.env = pure (some [x, y]))
    (hs : swapsWithSole [.Tuple [.Name x px, .Name y py] kt pt] (.Tuple [a, b] k2 pt2) pos.line X.env = pure false)
    (e1 : starEach [a, b] X.env = (false, eval a X.env) :: starEach [b] X.env) (e2 : starEach [b] X.env = (false, eval b X.env) :: starEach [] X.env)
    (h : ∀ p, M2 p = none → SS X ((Γ.set i (some ga)).set j (some (.raw (.ref p)))) (updM M2 p (.lst ds)) rest P) : SS X Γ M (.Assign [.Tuple [.Name x px, .Name y py] kt pt] (.Tuple [a, b] k2 pt2) pos :: rest) P :=
  ss_cons (N := fun Γ' M3 => ∃ p, M2 p = none ∧ Γ' = (Γ.set i (some ga)).set j (some (.raw (.ref p))) ∧ M3 = updM M2 p (.lst ds))
    (fun F => (ps_par hc hN hi hj hij hx hy (pa_cons (h1 F) (pa_cons (h2 F) pa_nil e2) e1) hw hs).imp fun E σ H ⟨S, sl, ok, fin⟩ =>
        ⟨S, sl, ok, fun v S1 H1 l1 ok1 r1 => ⟨S1, sl.mono l1, ok1, fun p xs S2 H2 l2 ok2 hS hF hM hp rl => ⟨v, .ref p, rfl, fin.nx _ _ S2 _ _ ⟨p, hM, rfl, rfl⟩ (l1.trans l2) (((sl.mono (l1.trans l2)).set (r1.mono l2)).set (.raw _)) (ok2.thaw hS hF hM hp rl)⟩⟩⟩)
    fun Γ' M3 ⟨p, k1, k2, k3⟩ => by subst k2; subst k3; exact h p k1
/-- .. both -/
theorem ss_parNN (i j : Nat) {x y : Str} {px py pt : Pos} {kt k2 pt2} {es : List D} (h1 : EN X Γ M a ds M1) (h2 : ∀ p, M1 p = none → EN X Γ (updM M1 p (.lst ds)) b es (updM M2 p (.lst ds))) (hc : X.calm = true) (hN : X.N.Nodup) (hi : X.N[i]? = some x) (hj : X.N[j]? = some y) (hij : i ≠ j)
    (hx : X.env.scope.names.lookup x = some .local) (hy : X.env.scope.names.lookup y = some .local)
    (hw : swappedStores [.Tuple [.Name x px, .Name y py] kt pt] (.Tuple [a, b] k2 pt2) X.env = pure (some [x, y]))
    (hs : swapsWithSole [.Tuple [.Name x px, .Name y py] kt pt] (.Tuple [a, b] k2 pt2) pos.line X.env = pure false)
    (e1 : starEach [a, b] X.env = (false, eval a X.env) :: starEach [b] X.env) (e2 : starEach [b] X.env = (false, eval b X.env) :: starEach [] X.env)
    (h : ∀ p q, M1 p = none → updM M2 p (.lst ds) q = none → q ≠ p → SS X ((Γ.set i (some (.raw (.ref p)))).set j (some (.raw (.ref q)))) (updM (updM M2 p (.lst ds)) q (.lst es)) rest P) : SS X Γ M (.Assign [.Tuple [.Name x px, .Name y py] kt pt] (.Tuple [a, b] k2 pt2) pos :: rest) P :=
  ss_cons (N := fun Γ' M3 => ∃ p q, M1 p = none ∧ updM M2 p (.lst ds) q = none ∧ Γ' = (Γ.set i (some (.raw (.ref p)))).set j (some (.raw (.ref q))) ∧ M3 = updM (updM M2 p (.lst ds)) q (.lst es))
    (fun F => by
      have hb : PE X b (fun σ H Q => ∃ p, M1 p = none ∧ tEn X.K F Γ (updM M1 p (.lst ds)) es (updM M2 p (.lst ds)) σ H Q) := PE.exP fun p hp => h2 p hp F
      exact (ps_par hc hN hi hj hij hx hy (pa_cons (h1 F) (pa_cons hb pa_nil e2) e1) hw hs).imp fun E σ H ⟨S, sl, ok, fin⟩ =>
        ⟨S, sl, ok, fun p xs S1 H1 l1 ok1 hS hF hM hp rl => ⟨p, hM, S1, sl.mono l1, ok1.thaw hS hF hM hp rl, fun q ys S2 H2 l2 ok2 hS2 hF2 hM2 hq rl2 => ⟨.ref p, .ref q, rfl, fin.nx _ _ S2 _ _ ⟨p, q, hM, hM2, rfl, rfl⟩ (l1.trans l2) (((sl.mono (l1.trans l2)).set (.raw _)).set (.raw _)) (ok2.thaw hS2 hF2 hM2 hq rl2)⟩⟩⟩)
    fun Γ' M3 ⟨p, q, k1, k2, k3, k4⟩ => by
      subst k3; subst k4
      exact h p q k1 k2 fun z => by rw [z, updM_same] at k2; cases k2

/-! ### targets -/
def gAs (K : PySem.W.Frag) (F : Hp) (d : D) (Γ : Gam) (M : MS) (Γ' : Gam) : TG := fun v σ H Q => ∃ S, Rep K S v d ∧ Sl K S Γ σ ∧ Ok K F S M H ∧ ∀ σ' H' S', Le S S' → Sl K S' Γ' σ' → Ok K F S' M H' → Q σ' H'
def AS (X : Cx) (Γ : Gam) (M : MS) (tg : Expr) (d : D) (Γ' : Gam) : Prop := ∀ F, PG X tg (gAs X.K F d Γ M Γ')
theorem PG.imp {tg : Expr} {t t' : TG} (h : PG X tg t) (k : ∀ v σ H Q, t' v σ H Q → t v σ H Q) : PG X tg t' := ⟨fun pins s σ H v u Q I r q => h.run pins s σ H v u Q I r (k _ _ _ _ q)⟩
theorem PG.exP {tg : Expr} {α : Type} {p : α → Prop} {t : α → TG} (h : ∀ a, p a → PG X tg (t a)) : PG X tg (fun v σ H Q => ∃ a, p a ∧ t a v σ H Q) := ⟨fun pins s σ H v u Q I r ⟨a, pa, q⟩ => (h a pa).run pins s σ H v u Q I r q⟩
theorem as_name (i : Nat) {x : Str} {d : D} (hN : X.N.Nodup) (hi : X.N[i]? = some x) (hx : Loc X.env.scope x) (hf : X.fn x = true ∨ X.env.scope.names.lookup x = some .local) : AS X Γ M (.Name x pos) d (Γ.set i (some d)) := fun F =>
  PG.imp (pg_name hN hi hx hf) fun v σ H Q ⟨S, r, sl, ok, k⟩ => k _ _ S (Le.refl _) (sl.set r) ok
def gAsL (K : PySem.W.Frag) (F : Hp) (ds : List D) (Γ : Gam) (M : MS) (Γ' : Gam) : TGs := fun vs σ H Q => ∃ S, RepL K S vs ds ∧ Sl K S Γ σ ∧ Ok K F S M H ∧ ∀ σ' H' S', Le S S' → Sl K S' Γ' σ' → Ok K F S' M H' → Q σ' H'
def ASL (X : Cx) (Γ : Gam) (M : MS) (tgs : List Expr) (ds : List D) (Γ' : Gam) : Prop := ∀ F, PGs X tgs (gAsL X.K F ds Γ M Γ')
theorem PGs.imp {tg : List Expr} {t t' : TGs} (h : PGs X tg t) (k : ∀ v σ H Q, t' v σ H Q → t v σ H Q) : PGs X tg t' := ⟨fun pins s σ H v u Q I r q => h.run pins s σ H v u Q I r (k _ _ _ _ q)⟩
theorem asl_nil : ASL X Γ M [] [] Γ := fun F => PGs.imp pgs_nil fun vs σ H Q ⟨S, r, sl, ok, k⟩ => by cases r; exact ⟨rfl, k σ H S (Le.refl _) sl ok⟩
theorem asl_cons {t : Expr} {ts : List Expr} {d : D} {Γ1 Γ2 : Gam} (h1 : AS X Γ M t d Γ1) (h2 : ASL X Γ1 M ts ds Γ2) (hs : (assignEach (t :: ts) X.env).map (·.2) = assign t X.env :: (assignEach ts X.env).map (·.2)) : ASL X Γ M (t :: ts) (d :: ds) Γ2 := fun F =>
  PGs.imp (pgs_cons (h1 F) (h2 F) hs) fun vs σ H Q ⟨S, r, sl, ok, k⟩ => by
    cases r with
    | cons r1 r2 => exact ⟨_, _, rfl, S, r1, sl, ok, fun σ' H' S' l sl' ok' => ⟨S', r2.mono l, sl', ok', fun σ2 H2 S2 l2 => k σ2 H2 S2 (l.trans l2)⟩⟩
theorem as_tup {ts : List Expr} {k0 : Nat} {Γ' : Gam} (hc : X.calm = true) (h : ASL X Γ M ts ds Γ') (hn : (assignEach ts X.env).length = ds.length) (hst : (assignEach ts X.env).findIdx? (·.1) = none) : AS X Γ M (.Tuple ts k0 pos) (.tup ds) Γ' := fun F =>
  PG.imp (pg_tup hc (h F) hn hst) fun v σ H Q ⟨S, r, sl, ok, k⟩ => by
    cases r with
    | tup hs rl => exact ⟨_, _, rfl, SqT.of (ok.s _ _ hs), rl.len, S, rl, sl, ok, k⟩
/-- a, b = e, e a tuple -/
theorem s1_asg {tg : Expr} {Γ' : Gam} (he : EV X Γ M e g M') (hg : AS X Γ M' tg g Γ') (hs : swapsWithSole [tg] e pos.line X.env = pure false) (hw : swappedStores [tg] e X.env = pure none)
    (h1 : (assignEach [tg] X.env).map (·.2) = [assign tg X.env]) (h : P.nx Γ' M') : S1 X Γ M (.Assign [tg] e pos) P := fun F =>
  (ps_asg (he F) (hg F) hs hw h1).imp fun E σ H ⟨S, sl, ok, fin⟩ => ⟨S, sl, ok, fun v S1 H1 l1 ok1 r1 => ⟨S1, r1, sl.mono l1, ok1, fun σ2 H2 S2 l2 sl2 ok2 => fin.nx _ _ S2 _ _ h (l1.trans l2) sl2 ok2⟩⟩

/-! ### return, if, expression, dead code -/
theorem s1_ret (he : EV X Γ M e g M') (h : P.rt g M') : S1 X Γ M (.Return (some e) pos) P := fun F =>
  (ps_ret (he F)).imp fun E σ H ⟨S, sl, ok, fin⟩ => ⟨S, sl, ok, fun v S' H' l ok' r => fin.rt v H' S' g M' h l ok' r⟩
theorem s1_retN (h : P.rt .non M) : S1 X Γ M (.Return none pos) P := fun F => ps_retN.imp fun E σ H ⟨S, sl, ok, fin⟩ => fin.rt .non H S .non M h (Le.refl _) ok .non
/-- return of a list that changed till now -/
theorem s1_retF {p : Addr} (he : EV X Γ M e (.raw (.ref p)) M') (hp : M' p = some (.lst ds)) (h : P.rt (.lst ds) (delM M' p)) : S1 X Γ M (.Return (some e) pos) P := fun F =>
  (ps_ret (he F)).imp fun E σ H ⟨S, sl, ok, fin⟩ => ⟨S, sl, ok, fun v S' H' l ok' r => by
    obtain ⟨T, l2, ok2, r2⟩ := ok'.freeze hp
    rw [r.rawE]
    exact fin.rt _ H' T _ _ h (l.trans l2) ok2 r2⟩
theorem ss_ret (he : EV X Γ M e g M') (h : P.rt g M') : SS X Γ M [.Return (some e) pos] P := fun F => pss_one (s1_ret he h F)
theorem ss_retF {p : Addr} (he : EV X Γ M e (.raw (.ref p)) M') (hp : M' p = some (.lst ds)) (h : P.rt (.lst ds) (delM M' p)) : SS X Γ M [.Return (some e) pos] P := fun F => pss_one (s1_retF he hp h F)
/-- return of a new list that the caller may change -/
theorem s1_retNew (he : EN X Γ M e ds M') (h : P.rn ds M') : S1 X Γ M (.Return (some e) pos) P := fun F =>
  (ps_ret (he F)).imp fun E σ H ⟨S, sl, ok, fin⟩ => ⟨S, sl, ok, fun p xs S' H' l ok' hS hF hM hp rl => fin.rn p xs H' S' ds M' h l ok' hS hF hM hp rl⟩
theorem ss_one (h : S1 X Γ M st P) : SS X Γ M [st] P := fun F => pss_one (h F)
theorem s1_expr (he : EV X Γ M e g M') (hs : swapsWith e none pos.line X.env = pure false) (h : P.nx Γ M') : S1 X Γ M (.Expr e pos) P := fun F =>
  (ps_expr (he F) hs).imp fun E σ H ⟨S, sl, ok, fin⟩ => ⟨S, sl, ok, fun v S' H' l ok' r => fin.nx _ _ S' _ _ h l (sl.mono l) ok'⟩
theorem pss_dead {sts : List Stmt} : PSs X sts (fun _ _ _ => False) := ⟨fun _ _ _ _ _ _ h => h.elim⟩
theorem s1_if {t : Bool} {p q : List Stmt} (hc : ET X Γ M c t M') (h1 : t = true → SS X Γ M' p P) (h2 : t = false → SS X Γ M' q P) : S1 X Γ M (.If c p q pos) P := fun F => by
  cases t with
  | true => exact (ps_if (hc F) (h1 rfl F) pss_dead).imp fun E σ H ⟨S, sl, ok, fin⟩ => ⟨S, sl, ok, fun S' H' l ok' => iteT ⟨S', sl.mono l, ok', fin.up l⟩⟩
  | false => exact (ps_if (hc F) pss_dead (h2 rfl F)).imp fun E σ H ⟨S, sl, ok, fin⟩ => ⟨S, sl, ok, fun S' H' l ok' => iteF ⟨S', sl.mono l, ok', fin.up l⟩⟩
/-- an if that is left, or not entered -/
theorem ss_if {t : Bool} {p q : List Stmt} (hc : ET X Γ M c t M') (h1 : t = true → SS X Γ M' p { P with nx := fun Γ' M2 => SS X Γ' M2 rest P }) (h2 : t = false → SS X Γ M' q { P with nx := fun Γ' M2 => SS X Γ' M2 rest P }) : SS X Γ M (.If c p q pos :: rest) P :=
  ss_cons (N := fun Γ' M2 => SS X Γ' M2 rest P) (s1_if hc h1 h2) fun _ _ h => h
theorem ss_ifT {t : Bool} {p q : List Stmt} (hc : ET X Γ M c t M') (ht : t = true) (h1 : SS X Γ M' p { P with nx := fun Γ' M2 => SS X Γ' M2 rest P }) : SS X Γ M (.If c p q pos :: rest) P :=
  ss_if hc (fun _ => h1) fun e => by rw [ht] at e; cases e
theorem ss_ifF {t : Bool} {p : List Stmt} (hc : ET X Γ M c t M') (ht : t = false) (h2 : SS X Γ M' rest P) : SS X Γ M (.If c p [] pos :: rest) P :=
  ss_if hc (fun e => by rw [ht] at e; cases e) fun _ => ss_nil h2
/-- if c: return .. -/
theorem ss_ifR {t : Bool} {p : List Stmt} (hc : ET X Γ M c t M') (h1 : t = true → SS X Γ M' p { P with nx := fun _ _ => False }) (h2 : t = false → SS X Γ M' rest P) : SS X Γ M (.If c p [] pos :: rest) P :=
  ss_if hc (fun e => ss_mono (h1 e) (fun _ _ z => z.elim) (fun _ _ z => z) (fun _ _ z => z) (fun _ _ z => z)) fun e => ss_nil (h2 e)
theorem ss_break (h : P.bk Γ M) : SS X Γ M [.Break pos] P := fun F => pss_one (ps_break.imp fun E σ H ⟨S, sl, ok, fin⟩ => fin.bk σ H S Γ M h (Le.refl _) sl ok)
theorem ss_continue (h : P.ct Γ M) : SS X Γ M [.Continue pos] P := fun F => pss_one (ps_continue.imp fun E σ H ⟨S, sl, ok, fin⟩ => fin.ct σ H S Γ M h (Le.refl _) sl ok)
/-- x op= e -/
theorem s1_aug (i : Nat) {x : Str} {px : Pos} {op : Operator} {r : V → V → Hp → VK → Prop} (hx0 : Γ[i]? = some (some ga)) (he : EV X Γ M e gb M') (hr : PIp X op r) (hR : RD X.K r ga gb M' g M') (hN : X.N.Nodup) (hi : X.N[i]? = some x) (hx : Loc X.env.scope x) (hf : X.fn x = true ∨ X.env.scope.names.lookup x = some .local)
    (h : P.nx (Γ.set i (some g)) M') : S1 X Γ M (.AugAssign (.Name x px) op e pos) P := fun F =>
  (ps_aug hN hi hx (he F) hr hf).imp fun E σ H ⟨S, sl, ok, fin⟩ => by
    obtain ⟨v, h1, h2⟩ := sl.at_ i _ hx0
    exact ⟨v, h1, S, sl, ok, fun w S1 H1 l1 ok1 r1 => hR F S1 H1 v w _ ok1 (h2.mono l1) r1 fun z S2 H2 l2 ok2 r2 => fin.nx _ _ S2 _ _ h (l1.trans l2) ((sl.mono (l1.trans l2)).set r2) ok2⟩
theorem ss_augAdd (i : Nat) {x : Str} {px : Pos} {m n : Int} (hx0 : Γ[i]? = some (some (.int m))) (he : EV X Γ M e (.int n) M') (hN : X.N.Nodup) (hi : X.N[i]? = some x) (hx : Loc X.env.scope x) (hf : X.fn x = true ∨ X.env.scope.names.lookup x = some .local)
    (h : SS X (Γ.set i (some (.int (m + n)))) M' rest P) : SS X Γ M (.AugAssign (.Name x px) .Add e pos :: rest) P :=
  ss_step (s1_aug i hx0 he ip_add (fun F S H x y Q ok rx ry res => ⟨m, n, rx.intE, ry.intE, res.scal ok rfl⟩) hN hi hx hf ⟨rfl, rfl⟩) h
end
end Sy

set_option Elab.async false
set_option linter.all false
set_option maxRecDepth 100000
set_option maxHeartbeats 2000000
/-! Sy4: defs, calls, instances -/
namespace Sy
open PySem PySem.Spec PyProof.Rows L2

/-- what a callee leaves alone -/
def frOf (S : Hp) (M : MS) (H : Hp) : Hp := fun a => match S a, M a with
  | none, none => H a
  | _, _ => none
section
variable {K : PySem.W.Frag} {F S T H H' : Hp} {M M' : MS}
theorem frOf_some {a : Addr} {o : HO} (h : frOf S M H a = some o) : S a = none ∧ M a = none ∧ H a = some o := by
  unfold frOf at h
  split at h
  · rename_i h1 h2; exact ⟨h1, h2, h⟩
  · cases h
theorem frOf_eq {a : Addr} (h1 : S a = none) (h2 : M a = none) : frOf S M H a = H a := by
  unfold frOf
  rw [h1, h2]
theorem Ok.down (ok : Ok K F S M H) : Ok K (frOf S M H) S M H := by
  refine ⟨ok.s, fun a o e => (frOf_some e).2.2, fun a ha => ?_, fun a o e => ?_⟩
  · cases q : frOf S M H a with
    | none => exact absurd q ha
    | some o => exact (frOf_some q).1
  · obtain ⟨h1, h2, h3⟩ := ok.m a o e
    refine ⟨h1, h2, ?_⟩
    cases q : frOf S M H a with
    | none => rfl
    | some u => rw [(frOf_some q).2.1] at e; cases e
theorem Ok.back (ok : Ok K F S M H) (ok' : Ok K (frOf S M H) T M' H') : Ok K F T M' H' := by
  have up : ∀ a o, F a = some o → frOf S M H a = some o := fun a o e => by
    have h1 : S a = none := ok.fs a (by rw [e]; simp)
    have h2 : M a = none := by
      cases q : M a with
      | none => rfl
      | some u => rw [(ok.m a u q).2.2] at e; cases e
    rw [frOf_eq h1 h2]; exact ok.f a o e
  refine ⟨ok'.s, fun a o e => ok'.f a o (up a o e), fun a ha => ?_, fun a o e => ?_⟩
  · cases q : F a with
    | none => exact absurd q ha
    | some o => exact ok'.fs a (by rw [up a o q]; simp)
  · obtain ⟨h1, h2, h3⟩ := ok'.m a o e
    refine ⟨h1, h2, ?_⟩
    cases q : F a with
    | none => rfl
    | some u => rw [up a u q] at h3; cases h3
end

/-- what a def does: arguments, state -> value, state -/
abbrev Rl := List D → MS → D → MS → Prop
def spD (K : PySem.W.Frag) (R : Rl) : Sp := fun vs H Q _ => ∃ S ds M g M', RepL K S vs ds ∧ Ok K (frOf S M H) S M H ∧ R ds M g M' ∧
  ∀ v S' H', Le S S' → Ok K (frOf S M H) S' M' H' → Rep K S' v g → Q v H'

def gam0 (N : List Str) (ds : List D) : Gam := ds.map some ++ List.replicate (N.length - ds.length) none
theorem sl_start {K : PySem.W.Frag} {S : Hp} {N : List Str} {vs : List V} {ds : List D} (r : RepL K S vs ds) : Sl K S (gam0 N ds) (L2.start N vs) := by
  refine ⟨?_, fun i d h => ?_⟩
  · unfold L2.start gam0
    simp [r.len]
  · unfold gam0 at h
    unfold L2.start
    by_cases hi : i < ds.length
    · rw [List.getElem?_append_left (by simpa using hi), List.getElem?_map] at h
      rw [List.getElem?_append_left (by simpa [r.len] using hi), List.getElem?_map]
      cases q : ds[i]? with
      | none => rw [q] at h; cases h
      | some e =>
        rw [q] at h
        cases h
        obtain ⟨v, h1, h2⟩ := r.at_ q
        exact ⟨v, by rw [h1]; rfl, h2⟩
    · rw [List.getElem?_append_right (by simpa using hi), List.getElem?_replicate] at h
      split at h <;> cases h
/-- what a body owes: the value and at least the state that is told -/
def owes (g : D) (M' : MS) : Post where
  nx := fun _ M2 => g = .non ∧ ∀ a o, M' a = some o → M2 a = some o
  rt := fun d M2 => d = g ∧ ∀ a o, M' a = some o → M2 a = some o
/-- the context of a def's body -/
abbrev Bc (P : Program) (w : World) (K : PySem.W.Frag) (mg : Str → Option Value) (base : Heap) (N : List Str) (qual : Str) (scope : Scope) (f : Addr) (cdv : Value) (A : Around) (outer : List Env) (s : Shared) (H : Hp) (E : XK) : Cx :=
  (cxOf CX0 P w K mg base N qual scope f cdv A outer s H E).nox
section
variable {P : Program} {w : World} {K : PySem.W.Frag} {mg : Str → Option Value} {base : Heap}
theorem body_ok {R : Rl} {ds : List D} {M : MS} {g : D} {M' : MS} {X : Cx} {N : List Str} {body : List Stmt} {vs : List V} {S H : Hp} {Q : VK} (hX : X.K = K) (r : RepL K S vs ds) (ok : Ok K (frOf S M H) S M H)
    (hQ : ∀ v S' H', Le S S' → Ok K (frOf S M H) S' M' H' → Rep K S' v g → Q v H') (h : SS X (gam0 N ds) M body (owes g M')) :
    ∃ t, PSs X body t ∧ t { nx := fun _ H' => Q .non H', rt := Q } (L2.start N vs) H := by
  subst hX
  refine ⟨_, h (frOf S M H), S, sl_start r, ok, ⟨fun σ' H' S' Γ' M2 p l sl ok' => ?_, fun v H' S' d M2 p l ok' rv => ?_, fun _ _ _ _ _ p => p.elim, fun _ _ _ _ _ p => p.elim, fun _ _ _ _ _ _ p => p.elim⟩⟩
  · obtain ⟨e, k⟩ := p
    subst e
    exact hQ _ S' H' l (ok'.less k) .non
  · obtain ⟨e, k⟩ := p
    subst e
    exact hQ v S' H' l (ok'.less k) rv
/-- a def of the text keeps its relation -/
theorem fn_def {x qual : Str} {params : Arguments} {body : List Stmt} {scope : Scope} {dvs : List V} {kws : List (Str × V)} {f : Addr} {fd : FuncData} {N ps : List Str} {k : Nat} {R : Rl} (F : FunD K x qual params body scope dvs kws f fd) (sc : FnScope N ps scope)
    (hl : ∀ ds M g M', R ds M g M' → ds.length = ps.length)
    (hb : ∀ (cdv : Value) (A : Around) (outer : List Env) (s : Shared) (H : Hp) (E : XK), Room k (A.deeper (envOfC qual scope s.heap.objs.size f cdv)) → ∀ ds M g M', R ds M g M' →
      SS (Bc P w K mg base N qual scope f cdv A outer s H E) (gam0 N ds) M body (owes g M')) : FnOk P w K mg base CX0 (k + 1) f fd ps (spD K R) := by
  refine F.ok sc (fun vs H Q E h => ?_) (fun cdv A outer s H vs Q E hr h => ?_)
  · obtain ⟨S, ds, M, g, M', r, _, hR, _⟩ := h
    rw [r.len]; exact hl _ _ _ _ hR
  · obtain ⟨S, ds, M, g, M', r, ok, hR, hQ⟩ := h
    obtain ⟨t, h1, h2⟩ := body_ok (K := K) (R := R) (N := N) (X := Bc P w K mg base N qual scope f cdv A outer s H E) rfl r ok hQ (hb cdv A outer s H E hr ds M g M' hR)
    exact ⟨t, h1.nox, h2⟩
theorem fn_imp {k : Nat} {f : Addr} {fd : FuncData} {ps : List Str} {R R' : Rl} (F : FnOk P w K mg base CX0 k f fd ps (spD K R)) (h : ∀ ds M g M', R' ds M g M' → R ds M g M') : FnOk P w K mg base CX0 k f fd ps (spD K R') :=
  F.imp fun vs H Q E ⟨S, ds, M, g, M', a, b, c, d⟩ => ⟨S, ds, M, g, M', a, b, h _ _ _ _ c, d⟩
end

/-- a def by its name -/
structure Cal (P : Program) (w : World) (K : PySem.W.Frag) (mg : Str → Option Value) (base : Heap) (k : Nat) (x : Str) (R : Rl) (dvs : List D) : Prop where
  ex : ∃ (f : Addr) (fd : FuncData) (ps : List Str) (ds : List Value) (dv : List V), FnOk P w K mg base CX0 k f fd ps (spD K R) ∧ mg x = some (.ref f) ∧ PySem.W.keepIn K (.ref f) = true ∧ Binds K fd ps ds ∧ Vals dv ds ∧ ∀ S, RepL K S dv dvs
/-- .. with keywords: n positional, those named ks; gD brings them into the parameters' order -/
structure CalK (P : Program) (w : World) (K : PySem.W.Frag) (mg : Str → Option Value) (base : Heap) (k : Nat) (x : Str) (R : Rl) (n : Nat) (ks : List Str) (gD : List D → List D → List D) : Prop where
  ex : ∃ (f : Addr) (fd : FuncData) (ps : List Str) (g : List Value → List Value → List Value) (gV : List V → List V → List V), FnOk P w K mg base CX0 k f fd ps (spD K R) ∧ mg x = some (.ref f) ∧ PySem.W.keepIn K (.ref f) = true ∧ KBn K fd ps n ks g gV ∧
    ∀ S vs ds zs es, RepL K S vs ds → RepL K S zs es → RepL K S (gV vs zs) (gD ds es)
/-- a method -/
structure Met (P : Program) (w : World) (K : PySem.W.Frag) (mg : Str → Option Value) (base : Heap) (k : Nat) (C : Addr) (m : Str) (R : Rl) : Prop where
  ex : ∃ (f : Addr) (fd : FuncData) (ps : List Str), Cls K C ∧ Meth K C m f ∧ FnOk P w K mg base CX0 k f fd ps (spD K R) ∧ Binds K fd ps []
/-- a class that is made by its name; R: its __init__ -/
structure Mak (P : Program) (w : World) (K : PySem.W.Frag) (mg : Str → Option Value) (base : Heap) (k : Nat) (x : Str) (C : Addr) (R : Rl) : Prop where
  ex : ∃ (f : Addr) (fd : FuncData) (ps : List Str), Mk K C f ∧ FnOk P w K mg base CX0 k f fd ps (spD K R) ∧ mg x = some (.ref C) ∧ Binds K fd ps []
structure MakK (P : Program) (w : World) (K : PySem.W.Frag) (mg : Str → Option Value) (base : Heap) (k : Nat) (x : Str) (C : Addr) (R : Rl) (n : Nat) (ks : List Str) (gD : List D → List D → List D) : Prop where
  ex : ∃ (f : Addr) (fd : FuncData) (ps : List Str) (g : List Value → List Value → List Value) (gV : List V → List V → List V), Mk K C f ∧ FnOk P w K mg base CX0 k f fd ps (spD K R) ∧ mg x = some (.ref C) ∧ KBn K fd ps (n + 1) ks g gV ∧
    ∀ S vs ds zs es, RepL K S vs ds → RepL K S zs es → RepL K S (gV vs zs) (gD ds es)

section
variable {X : Cx} {Γ : Gam} {M M' M1 M2 M3 : MS} {e a b c o : Expr} {g ga gb gc : D} {ds gs dds : List D} {pos p apos : Pos} {es : List Expr} {kws : List Keyword} {k j n : Nat} {x m : Str} {R : Rl} {C : Addr} {ks : List Str} {gD : List D → List D → List D}
/-- the callee's promise, from the caller's state -/
theorem spD_of {K : PySem.W.Frag} {F S H : Hp} {vs : List V} {Q : VK} {E : XK} (ok : Ok K F S M1 H) (r : RepL K S vs gs) (hR : R gs M1 g M2) (res : Res K F S Q g M2) : spD K R vs H Q E :=
  ⟨S, gs, M1, g, M2, r, ok.down, hR, fun v S' H' l ok' rv => res v S' H' l (ok.back ok') rv⟩
theorem ev_call (cal : Cal X.prog X.w X.K X.mg X.base k x R dds) (hr : Room j X.A) (hk : k ≤ j) (ha : EA X Γ M (e :: es) gs M1) (hR : R (gs ++ dds) M1 g M2) (hg : Gl X x)
    (hdb : (x == ("__debug__" : Str)) = false) (he : starEach (e :: es) X.env = (false, eval e X.env) :: starEach es X.env) (hpl : (backTo pos (starEach es X.env)).any (·.1) = false) :
    EV X Γ M (.Call (.Name x p) (e :: es) [] pos) g M2 := fun F => by
  obtain ⟨f, fd, ps, dv, dw, Fn, hm, kp, bi, vd, rd⟩ := cal.ex
  exact (pe_call Fn (hr.mono hk) hg hm kp bi vd (pass0 (X := X)) (ha F) hdb he hpl).imp fun σ H Q ⟨S, sl, ok, res⟩ =>
    ⟨S, sl, ok, fun vs S1 H1 l1 ok1 r1 => spD_of ok1 (r1.app (rd S1)) hR (res.up l1)⟩
theorem ev_callK (cal : CalK X.prog X.w X.K X.mg X.base k x R n ks gD) (hr : Room j X.A) (hk : k ≤ j) (ha : EA X Γ M (e :: es) gs M1) (hkw : EK X Γ M1 kws ds M2) (hn : gs.length = n) (hn2 : ds.length = ks.length) (hR : R (gD gs ds) M2 g M3) (hg : Gl X x)
    (hall : (backToKw pos (keywordEach kws X.env)).all (·.1.isSome) = true) (hks : (backToKw pos (keywordEach kws X.env)).filterMap (·.1) = ks)
    (hdb : (x == ("__debug__" : Str)) = false) (he : starEach (e :: es) X.env = (false, eval e X.env) :: starEach es X.env)
    (hpl : ((backTo pos (starEach (e :: es) X.env)).any (·.1) || (backToKw pos (keywordEach kws X.env)).any (·.1.isNone)) = false) :
    EV X Γ M (.Call (.Name x p) (e :: es) kws pos) g M3 := fun F => by
  obtain ⟨f, fd, ps, g1, gV, Fn, hm, kp, bi, rd⟩ := cal.ex
  exact (pe_callN Fn (hr.mono hk) hg hm kp bi (pass0 (X := X)) (ha F) (hkw F) hall hks hdb he hpl).imp fun σ H Q ⟨S, sl, ok, res⟩ =>
    ⟨S, sl, ok, fun vs S1 H1 l1 ok1 r1 => ⟨S1, sl.mono l1, ok1, fun zs S2 H2 l2 ok2 r2 => ⟨by rw [r1.len]; exact hn, by rw [r2.len]; exact hn2, spD_of ok2 (rd S2 _ _ _ _ (r1.mono l2) r2) hR (res.up (l1.trans l2))⟩⟩⟩
/-- f(k = v, ..) with keywords alone -/
theorem pe_callN0 {CX : CXT} {f : Addr} {fd : FuncData} {ps : List Str} {sp : Sp} {E : XK} {tk : TA} {g : List Value → List Value → List Value} {gV : List V → List V → List V} (F : FnOk X.prog X.w X.K X.mg X.base CX k f fd ps sp) (hr : Room k X.A) (hg : Gl X x) (hm : X.mg x = some (.ref f)) (hk : PySem.W.keepIn X.K (.ref f) = true) (hb : KBn X.K fd ps 0 ks g gV) (hx : Passes CX X E)
    (hkw : PK X kws tk) (hall : (backToKw pos (keywordEach kws X.env)).all (·.1.isSome) = true) (hks : (backToKw pos (keywordEach kws X.env)).filterMap (·.1) = ks)
    (hdb : (x == ("__debug__" : Str)) = false) (hpl : ((backTo pos (starEach [] X.env)).any (·.1) || (backToKw pos (keywordEach kws X.env)).any (·.1.isNone)) = false) :
    PE X (.Call (.Name x p) [] kws pos) (tCallN 0 ks.length sp gV E tNil tk) := by
  refine ⟨fun pins s σ H Q I h => ?_⟩
  refine wpAny_Call_Name_kw (ld_glob I hg hm ?_ hdb)
  refine PySem.W.callWith_KW0 (h₀ := X.base) I.ok.mod.kin hk hall (thn (hkw.run pos pins s σ H _ I h) fun ws s2 ⟨zs, H2, I2, rz, l1, l2, q2⟩ => ⟨I2.kIn, ?_⟩) hpl
  rw [hks]
  exact run_fnN (us := []) F hr hb hx I2 .nil rz l1 l2 q2
theorem ev_callK0 (cal : CalK X.prog X.w X.K X.mg X.base k x R 0 ks gD) (hr : Room j X.A) (hk : k ≤ j) (hkw : EK X Γ M kws ds M2) (hn2 : ds.length = ks.length) (hR : R (gD [] ds) M2 g M3) (hg : Gl X x)
    (hall : (backToKw pos (keywordEach kws X.env)).all (·.1.isSome) = true) (hks : (backToKw pos (keywordEach kws X.env)).filterMap (·.1) = ks)
    (hdb : (x == ("__debug__" : Str)) = false) (hpl : ((backTo pos (starEach [] X.env)).any (·.1) || (backToKw pos (keywordEach kws X.env)).any (·.1.isNone)) = false) :
    EV X Γ M (.Call (.Name x p) [] kws pos) g M3 := fun F => by
  obtain ⟨f, fd, ps, g1, gV, Fn, hm, kp, bi, rd⟩ := cal.ex
  exact (pe_callN0 Fn (hr.mono hk) hg hm kp bi (pass0 (X := X)) (hkw F) hall hks hdb hpl).imp fun σ H Q ⟨S, sl, ok, res⟩ =>
    ⟨S, sl, ok, fun zs S2 H2 l2 ok2 r2 => ⟨rfl, by rw [r2.len]; exact hn2, spD_of ok2 (rd S2 _ _ _ _ .nil r2) hR (res.up l2)⟩⟩

/-! ### instances -/
/-- the place of a field -/
theorem lookup_at {f : Str} : ∀ {fs : List (Str × V)} {i : Nat}, (fs.map (·.1)).Nodup → (fs.map (·.1))[i]? = some f → ∃ v, fs.lookup f = some v ∧ (fs.map (·.2))[i]? = some v
  | [], _, _, h => by simp at h
  | (y, v) :: r, 0, _, h => by
    simp at h
    subst h
    exact ⟨v, by simp [List.lookup], rfl⟩
  | (y, v) :: r, i + 1, hn, h => by
    simp only [List.map_cons, List.nodup_cons] at hn
    obtain ⟨w, h1, h2⟩ := lookup_at (fs := r) (i := i) hn.2 (by simpa using h)
    have ne : (f == y) = false := by
      have : f ≠ y := fun z => hn.1 (by rw [← z]; exact List.mem_of_getElem? (by simpa using h))
      simpa using this
    exact ⟨w, by simp only [List.lookup, ne]; exact h1, by simpa using h2⟩
theorem putF_new {f : Str} {v : V} : ∀ {fs : List (Str × V)}, f ∉ fs.map (·.1) → putF f v fs = fs ++ [(f, v)]
  | [], _ => rfl
  | (y, w) :: r, h => by
    have h1 : ¬ y = f := fun z => h (by simp [z])
    have ih := putF_new (v := v) (fs := r) fun z => h (List.mem_cons_of_mem _ z)
    simp only [putF, h1, if_false, List.cons_append]
    first | (rw [ih]) | simp [ih]
theorem putF_at {f : Str} {v : V} : ∀ {fs : List (Str × V)} {i : Nat}, (fs.map (·.1)).Nodup → (fs.map (·.1))[i]? = some f → putF f v fs = fs.set i (f, v)
  | [], _, _, h => by simp at h
  | (y, w) :: r, 0, _, h => by
    simp at h
    subst h
    simp [putF]
  | (y, w) :: r, i + 1, hn, h => by
    simp only [List.map_cons, List.nodup_cons] at hn
    have ih := putF_at (v := v) (fs := r) (i := i) hn.2 (by simpa using h)
    have ne : ¬ y = f := fun z => hn.1 (by rw [z]; exact List.mem_of_getElem? (by simpa using h))
    simp only [putF, ne, if_false, List.set_cons_succ]
    first | (rw [ih]) | simp [ih]
/-- an instance: settled, or one that changes -/
def InsOf (M : MS) (g : D) (C : Addr) (ns : List Str) (ds : List D) : Prop := g = .obj C ns ds ∨ ∃ a, g = .raw (.ref a) ∧ M a = some (.ins C ns ds)
theorem InsOf.get {K : PySem.W.Frag} {F S H : Hp} {v : V} {ns : List Str} (h : InsOf M g C ns ds) (ok : Ok K F S M H) (r : Rep K S v g) :
    ∃ a dx fs, v = .ref a ∧ H a = some (.ins C dx fs) ∧ fs.map (·.1) = ns ∧ RepL K S (fs.map (·.2)) ds := by
  rcases h with e | ⟨a, e, ea⟩
  · subst e
    cases r with
    | obj h1 h2 h3 => exact ⟨_, _, _, rfl, ok.s _ _ h1, h2, h3⟩
  · subst e
    obtain ⟨dx, fs, h1, h2, h3⟩ := (ok.m a _ ea).1
    exact ⟨a, dx, fs, r.rawE, h1, h2, h3⟩
/-- e.f -/
theorem ev_fld {ns : List Str} {f : Str} {i : Nat} (he : EV X Γ M e ga M') (hi : InsOf M' ga C ns ds) (c : Cls X.K C) (na : NoAttr X.K C f) (hn : ns.Nodup) (hf : ns[i]? = some f) (hd : ds[i]? = some g) (hb : attributeBase e f X.env (eval e X.env) = eval e X.env) :
    EV X Γ M (.Attribute e f pos) g M' := fun F => (pe_fld (he F) hb).imp fun σ H Q ⟨S, sl, ok, res⟩ => ⟨S, sl, ok, fun v S1 H1 l1 ok1 r1 => by
      obtain ⟨a, dx, fs, e1, e2, e3, e4⟩ := hi.get ok1 r1
      subst e3
      obtain ⟨w, h1, h2⟩ := lookup_at hn hf
      obtain ⟨d, h3, h4⟩ := e4.atV h2
      rw [hd] at h3
      cases h3
      exact ⟨a, C, dx, fs, w, e1, e2, c, na, h1, res w S1 H1 l1 ok1 h4⟩⟩
/-- a name's field, stored: a new one -/
theorem s1_fldNew {P : Post} {ns : List Str} {f : Str} {a0 : Addr} (hv : EV X Γ M b g M1) (ho : EV X Γ M1 o (.raw (.ref a0)) M2) (hi : M2 a0 = some (.ins C ns ds)) (c : Cls X.K C) (na : NoAttr X.K C f) (hf : f ∉ ns) (hl : ns.length < 1000)
    (hs : swapsWith b (some (.Attribute o f apos)) pos.line X.env = pure false) (h : P.nx Γ (updM M2 a0 (.ins C (ns ++ [f]) (ds ++ [g])))) : S1 X Γ M (.Assign [.Attribute o f apos] b pos) P := fun F =>
  (ps_fld (ho F) (hv F) hs).imp fun E σ H ⟨S, sl, ok, fin⟩ => ⟨S, sl, ok, fun v S1 H1 l1 ok1 r1 => ⟨S1, sl.mono l1, ok1, fun w S2 H2 l2 ok2 r2 => by
    obtain ⟨dx, fs, h1, h2, h3⟩ := (ok2.m a0 _ hi).1
    subst h2
    refine ⟨a0, C, dx, fs, r2.rawE, h1, c, na, by simpa using hl, fin.nx _ _ S2 _ _ h (l1.trans l2) (sl.mono (l1.trans l2)) (ok2.chg hi ⟨dx, _, upd_same, ?_, ?_⟩)⟩
    · rw [putF_new hf]; simp
    · rw [putF_new hf]
      simp only [List.map_append, List.map_cons, List.map_nil]
      exact h3.app (.cons (r1.mono l2) .nil)⟩⟩
/-- .. stored anew -/
theorem s1_fldSet {P : Post} {ns : List Str} {f : Str} {a0 : Addr} {i : Nat} (hv : EV X Γ M b g M1) (ho : EV X Γ M1 o (.raw (.ref a0)) M2) (hi : M2 a0 = some (.ins C ns ds)) (c : Cls X.K C) (na : NoAttr X.K C f) (hn : ns.Nodup) (hf : ns[i]? = some f) (hl : ns.length < 1000)
    (hs : swapsWith b (some (.Attribute o f apos)) pos.line X.env = pure false) (h : P.nx Γ (updM M2 a0 (.ins C ns (ds.set i g)))) : S1 X Γ M (.Assign [.Attribute o f apos] b pos) P := fun F =>
  (ps_fld (ho F) (hv F) hs).imp fun E σ H ⟨S, sl, ok, fin⟩ => ⟨S, sl, ok, fun v S1 H1 l1 ok1 r1 => ⟨S1, sl.mono l1, ok1, fun w S2 H2 l2 ok2 r2 => by
    obtain ⟨dx, fs, h1, h2, h3⟩ := (ok2.m a0 _ hi).1
    subst h2
    refine ⟨a0, C, dx, fs, r2.rawE, h1, c, na, by simpa using hl, fin.nx _ _ S2 _ _ h (l1.trans l2) (sl.mono (l1.trans l2)) (ok2.chg hi ⟨dx, _, upd_same, ?_, ?_⟩)⟩
    · rw [putF_at hn hf, List.map_set]
      apply List.ext_getElem?
      intro j
      by_cases z : i = j
      · subst z
        rw [List.getElem?_set_self (List.getElem?_eq_some_iff.mp hf).1, hf]
      · rw [List.getElem?_set_ne z]
    · rw [putF_at hn hf, List.map_set]
      exact RepL.set (r1.mono l2) i h3⟩⟩

/-- C(..): the new instance as its __init__ leaves it; it may change -/
theorem makeCore {K : PySem.W.Frag} {F S H : Hp} {vs : List V} {Q : VK} {E : XK} {ns : List Str} (ok : Ok K F S M1 H) (r : RepL K S vs gs) (hR : ∀ q, M1 q = none → R (.raw (.ref q) :: gs) (updM M1 q (.ins C [] [])) .non (updM M2 q (.ins C ns ds)))
    (hQ : ∀ q S' H', Le S S' → Ok K F S' (updM M2 q (.ins C ns ds)) H' → M1 q = none → Q (.ref q) H') : ∀ q dx, H q = none → H dx = none → dx ≠ q → spD K R (.ref q :: vs) (upd (upd H dx (.own q)) q (.ins C dx [])) (fun v H2 => v = .non ∧ Q (.ref q) H2) E := fun q dx hq hdx ne => by
  obtain ⟨d1, d2, d3⟩ := ok.fresh hdx
  have ok1 : Ok K F S M1 (upd H dx (.own q)) := ⟨ok.s.updR d1, ok.f.updR d2, ok.fs, fun a u e => by
    obtain ⟨a1, a2, a3⟩ := ok.m a u e
    exact ⟨a1.mono (Le.refl _) (upd_ne fun z => by rw [z, d3] at e; cases e), a2, a3⟩⟩
  have hq1 : upd H dx (.own q) q = none := by rw [upd_ne (Ne.symm ne)]; exact hq
  have ok2 := ok1.newM (u := .ins C [] []) (o := .ins C dx []) hq1 ⟨dx, [], upd_same, rfl, .nil⟩
  refine ⟨S, _, _, .non, updM M2 q (.ins C ns ds), .cons (.raw _) r, ok2.down, hR q (ok.fresh hq).2.2, fun v S' H' l ok' rv => ⟨rv.nonE, hQ q S' H' l (ok2.back ok') (ok.fresh hq).2.2⟩⟩
theorem ev_make {ns : List Str} (mk : Mak X.prog X.w X.K X.mg X.base k x C R) (hr : Room j X.A) (hk : k + 1 ≤ j) (ha : EA X Γ M (e :: es) gs M1) (hR : ∀ q, M1 q = none → R (.raw (.ref q) :: gs) (updM M1 q (.ins C [] [])) .non (updM M2 q (.ins C ns ds)))
    (hM : ∀ q, M1 q = none → M2 q = none) (hg : Gl X x) (hdb : (x == ("__debug__" : Str)) = false) (he : starEach (e :: es) X.env = (false, eval e X.env) :: starEach es X.env) (hpl : (backTo pos (starEach es X.env)).any (·.1) = false) :
    EV X Γ M (.Call (.Name x p) (e :: es) [] pos) (.obj C ns ds) M2 := fun F => by
  obtain ⟨f, fd, ps, Mk, Fn, hm, bi⟩ := mk.ex
  exact (pe_make Mk Fn (hr.mono hk) hg hm bi .nil (pass0 (X := X)) (ha F) hdb he hpl).imp fun σ H Q ⟨S, sl, ok, res⟩ => ⟨S, sl, ok, fun vs S1 H1 l1 ok1 r1 q dx hq hdx ne => by
    rw [List.append_nil]
    refine makeCore ok1 r1 hR (fun q S' H' l ok' hq0 => ?_) q dx hq hdx ne
    obtain ⟨T, l2, ok2, r2⟩ := ok'.freezeI updM_same
    rw [delM_updM (hM q hq0)] at ok2
    exact res _ T H' ((l1.trans l).trans l2) ok2 r2⟩
/-- x = C(..), an instance that will change -/
theorem ss_setMake {P : Post} {rest : List Stmt} {ns : List Str} (i : Nat) {y : Str} {py : Pos} (mk : Mak X.prog X.w X.K X.mg X.base k x C R) (hr : Room j X.A) (hk : k + 1 ≤ j) (ha : EA X Γ M (e :: es) gs M1) (hR : ∀ q, M1 q = none → R (.raw (.ref q) :: gs) (updM M1 q (.ins C [] [])) .non (updM M2 q (.ins C ns ds)))
    (hg : Gl X x) (hdb : (x == ("__debug__" : Str)) = false) (he : starEach (e :: es) X.env = (false, eval e X.env) :: starEach es X.env) (hpl : (backTo apos (starEach es X.env)).any (·.1) = false)
    (hN : X.N.Nodup) (hi : X.N[i]? = some y) (hx : Loc X.env.scope y) (hf : X.fn y = true ∨ X.env.scope.names.lookup y = some .local) (hs : swapsWith (.Call (.Name x p) (e :: es) [] apos) (some (.Name y py)) pos.line X.env = pure false)
    (h : ∀ q, M1 q = none → SS X (Γ.set i (some (.raw (.ref q)))) (updM M2 q (.ins C ns ds)) rest P) : SS X Γ M (.Assign [.Name y py] (.Call (.Name x p) (e :: es) [] apos) pos :: rest) P :=
  ss_cons (N := fun Γ' M3 => ∃ q, M1 q = none ∧ Γ' = Γ.set i (some (.raw (.ref q))) ∧ M3 = updM M2 q (.ins C ns ds)) (fun F => by
    obtain ⟨f, fd, ps, Mk, Fn, hm, bi⟩ := mk.ex
    exact (ps_set hN hi hx (pe_make (es := es) Mk Fn (hr.mono hk) hg hm bi .nil (pass0 (X := X)) (ha F) hdb he hpl) hs hf).imp fun E σ H ⟨S, sl, ok, fin⟩ => ⟨S, sl, ok, fun vs S1 H1 l1 ok1 r1 q dx hq hdx ne => by
      rw [List.append_nil]
      exact makeCore (Q := fun v H' => E.nx (σ.set i (some v)) H') ok1 r1 hR (fun q S' H' l ok' hq0 => fin.nx _ _ S' _ _ ⟨q, hq0, rfl, rfl⟩ (l1.trans l) ((sl.mono (l1.trans l)).set (.raw _)) ok') q dx hq hdx ne⟩)
  fun Γ' M3 ⟨q, h1, h2, h3⟩ => by subst h2; subst h3; exact h q h1
/-- o.m(e, ..) -/
theorem ev_meth {ns : List Str} {pl : Sem Bool} (mt : Met X.prog X.w X.K X.mg X.base k C m R) (hr : Room j X.A) (hk : k ≤ j) (ho : EV X Γ M o ga M1) (hi : InsOf M1 ga C ns dds) (hm : m ∉ ns) (ha : EA X Γ M1 (e :: es) gs M2) (hR : R (ga :: gs) M2 g M3)
    (hst : starEach (e :: es) X.env = (false, eval e X.env) :: starEach es X.env) (hpl : (backTo pos (starEach es X.env)).any (·.1) = false)
    (ht : eval (.Call (.Attribute o m apos) (e :: es) [] pos) X.env = (do
      let ov ← eval o X.env
      standAt apos.atName
      let (f, first) ← holding [ov] (getMethod ov m pl)
      callWith pos f first (backTo pos (starEach (e :: es) X.env)) (backToKw pos (keywordEach [] X.env)))) :
    EV X Γ M (.Call (.Attribute o m apos) (e :: es) [] pos) g M3 := fun F => by
  obtain ⟨f, fd, ps, c, me, Fn, bi⟩ := mt.ex
  exact (pe_meth (pl := pl) (ho F) c me Fn (hr.mono hk) bi .nil (pass0 (X := X)) (ha F) hst hpl ht).imp fun σ H Q ⟨S, sl, ok, res⟩ => ⟨S, sl, ok, fun v S1 H1 l1 ok1 r1 => by
    obtain ⟨a, dx, fs, e1, e2, e3, e4⟩ := hi.get ok1 r1
    refine ⟨a, dx, fs, e1, e2, ?_, S1, sl.mono l1, ok1, fun vs S2 H2 l2 ok2 r2 => ?_⟩
    · rw [List.lookup_eq_none_iff]
      intro p hp
      have : p.1 ∈ ns := by rw [← e3]; exact List.mem_map_of_mem hp
      simpa using fun z : m = p.1 => hm (by rw [z]; exact this)
    · show spD X.K R (v :: (vs ++ [])) H2 Q E0
      rw [List.append_nil]
      exact spD_of ok2 (.cons (r1.mono l2) r2) hR (res.up (l1.trans l2))⟩
theorem ev_meth0 {ns : List Str} {pl : Sem Bool} (mt : Met X.prog X.w X.K X.mg X.base k C m R) (hr : Room j X.A) (hk : k ≤ j) (ho : EV X Γ M o ga M1) (hi : InsOf M1 ga C ns dds) (hm : m ∉ ns) (hR : R [ga] M1 g M3)
    (ht : eval (.Call (.Attribute o m apos) [] [] pos) X.env = (do
      let ov ← eval o X.env
      standAt apos.atName
      let (f, first) ← holding [ov] (getMethod ov m pl)
      callWith pos f first (backTo pos (starEach [] X.env)) (backToKw pos (keywordEach [] X.env)))) :
    EV X Γ M (.Call (.Attribute o m apos) [] [] pos) g M3 := fun F => by
  obtain ⟨f, fd, ps, c, me, Fn, bi⟩ := mt.ex
  exact (pe_meth0 (pl := pl) (ho F) c me Fn (hr.mono hk) bi .nil (pass0 (X := X)) ht).imp fun σ H Q ⟨S, sl, ok, res⟩ => ⟨S, sl, ok, fun v S1 H1 l1 ok1 r1 => by
    obtain ⟨a, dx, fs, e1, e2, e3, e4⟩ := hi.get ok1 r1
    refine ⟨a, dx, fs, e1, e2, ?_, ?_⟩
    · rw [List.lookup_eq_none_iff]
      intro p hp
      have : p.1 ∈ ns := by rw [← e3]; exact List.mem_map_of_mem hp
      simpa using fun z : m = p.1 => hm (by rw [z]; exact this)
    · exact spD_of (E := E0) ok1 (.cons r1 .nil) hR (res.up l1)⟩
end
end Sy

set_option Elab.async false
set_option linter.all false
set_option maxRecDepth 100000
set_option maxHeartbeats 2000000
/-! Sy5: loops and comprehensions -/
namespace Sy
open PySem PySem.Spec PyProof.Rows L2

/-- what is walked: n turns, the i-th gives Yd i, as long as Gd holds of what changes -/
def tIt (K : PySem.W.Frag) (F : Hp) (Γ : Gam) (M : MS) (n : Nat) (Yd : Nat → D) (Gd : MS → Prop) (M' : MS) : TI := fun σ H R => ∃ S, Sl K S Γ σ ∧ Ok K F S M H ∧ ∀ S' H' (J : It) (G : Hp → Prop) (Y : Nat → Hp → V → Hp → Prop), Le S S' → Ok K F S' M' H' → Walk J n G Y →
  (∀ F2 S2 M2 H2, Le S' S2 → Ok K F2 S2 M2 H2 → Gd M2 → G H2) →
  (∀ i x F2 S2 M2 H2 H3, i < n → Le S' S2 → Ok K F2 S2 M2 H2 → Gd M2 → Y i H2 x H3 → ∃ S3, Le S2 S3 ∧ Ok K F2 S3 M2 H3 ∧ Rep K S3 x (Yd i)) → R J H'
def IT (X : Cx) (Γ : Gam) (M : MS) (tg iter : Expr) (n : Nat) (Yd : Nat → D) (Gd : MS → Prop) (M' : MS) : Prop := ∀ F, PI X tg iter (tIt X.K F Γ M n Yd Gd M')

/-- a list: settled, or one that changes -/
def LstOf (M : MS) (g : D) (ds : List D) : Prop := g = .lst ds ∨ g = .ro ds ∨ ∃ p, g = .raw (.ref p) ∧ M p = some (.lst ds)
theorem LstOf.get {K : PySem.W.Frag} {F S H : Hp} {M : MS} {g : D} {ds : List D} {v : V} (h : LstOf M g ds) (ok : Ok K F S M H) (r : Rep K S v g) : ∃ a xs, v = .ref a ∧ SqL K H a xs ∧ RepL K S xs ds := by
  rcases h with e | e | ⟨p, e, hp⟩
  · subst e
    cases r with
    | lst h1 h2 => exact ⟨_, _, rfl, SqL.of (ok.s _ _ h1), h2⟩
  · subst e
    cases r with
    | ro h1 h2 => exact ⟨_, _, rfl, sqL_le ok.s h1, h2⟩
  · subst e
    obtain ⟨xs, h1, h2⟩ := (ok.m p _ hp).1
    exact ⟨p, xs, r.rawE, .inl (.inl h1), h2⟩
section
variable {X : Cx} {Γ : Gam} {M M' M1 M2 M3 : MS} {e a b c iter tg : Expr} {g ga gb gc : D} {ds gs : List D} {pos p : Pos} {P : Post} {n : Nat} {Yd : Nat → D} {Gd : MS → Prop}
def atD (ds : List D) (i : Nat) : D := (ds[i]?).getD .non
theorem atD_of {ds : List D} {i : Nat} {d : D} (h : ds[i]? = some d) : atD ds i = d := by unfold atD; rw [h]; rfl
theorem it_list (he : EV X Γ M e g M') (hg : g = .lst ds ∨ g = .ro ds) : IT X Γ M tg e ds.length (atD ds) (fun _ => True) M' := fun F =>
  (pi_list (he F)).imp fun σ H R ⟨S, sl, ok, q⟩ => ⟨S, sl, ok, fun v S1 H1 l1 ok1 r1 => by
    obtain ⟨a, xs, e0, h1, h2⟩ : ∃ a xs, v = .ref a ∧ SqL X.K S1 a xs ∧ RepL X.K S1 xs ds := by
      rcases hg with z | z
      · subst z; cases r1 with | lst a b => exact ⟨_, _, rfl, SqL.of a, b⟩
      · subst z; cases r1 with | ro a b => exact ⟨_, _, rfl, a, b⟩
    subst e0
    have : True := True.intro
    · refine ⟨a, rfl, ⟨xs, sqL_le ok1.s h1⟩, q S1 H1 _ _ _ l1 ok1 (by rw [← h2.len]; exact walk_list) (fun F2 S2 M2 H2 l2 ok2 _ => sqL_le ok2.s (sqL_le l2 h1)) fun i x F2 S2 M2 H2 H3 hi l2 ok2 _ y => ?_⟩
      obtain ⟨e1, e2⟩ := y
      subst e1
      obtain ⟨d, h3, h4⟩ := (h2.mono l2).atV e2
      exact ⟨S2, Le.refl _, ok2, by rw [atD_of h3]; exact h4⟩⟩
theorem it_listM {q0 : Addr} (he : EV X Γ M e (.raw (.ref q0)) M') (hq : M' q0 = some (.lst ds)) : IT X Γ M tg e ds.length (atD ds) (fun M2 => M2 q0 = some (.lst ds)) M' := fun F =>
  (pi_list (he F)).imp fun σ H R ⟨S, sl, ok, q⟩ => ⟨S, sl, ok, fun v S1 H1 l1 ok1 r1 => by
    obtain ⟨xs, h1, h2⟩ := (ok1.m q0 _ hq).1
    refine ⟨q0, r1.rawE, ⟨xs, .inl (.inl h1)⟩, q S1 H1 (Itl X.K q0) (fun H => ∃ ys, H q0 = some (.lst ys) ∧ ys.length = ds.length) (fun i H x H' => H' = H ∧ ∃ ys, H q0 = some (.lst ys) ∧ ys[i]? = some x) l1 ok1 ?_ (fun F2 S2 M2 H2 l2 ok2 hg => ?_) fun i x F2 S2 M2 H2 H3 hi l2 ok2 hg ⟨e1, ys, e2, e3⟩ => ?_⟩
    · refine ⟨fun i H hi ⟨ys, e1, e2⟩ => ⟨ys, ys[i], .inl (.inl e1), by simp [hi, e2]⟩, fun H ⟨ys, e1, e2⟩ => ⟨ys, .inl (.inl e1), by omega⟩, fun i H x H' hi ⟨ys, e1, e2⟩ y => ⟨y.1, ys, e1, y.2 ys (.inl (.inl e1))⟩⟩
    · obtain ⟨ys, e1, e2⟩ := (ok2.m q0 _ hg).1
      exact ⟨ys, e1, e2.len⟩
    · subst e1
      obtain ⟨zs, e4, e5⟩ := (ok2.m q0 _ hg).1
      rw [e2] at e4
      cases e4
      obtain ⟨d, h3, h4⟩ := e5.atV e3
      exact ⟨S2, Le.refl _, ok2, by rw [atD_of h3]; exact h4⟩⟩
theorem it_tup (he : EV X Γ M e g M') (hg : g = .tup ds ∨ g = .rt ds) : IT X Γ M tg e ds.length (atD ds) (fun _ => True) M' := fun F =>
  (pi_tup (he F)).imp fun σ H R ⟨S, sl, ok, q⟩ => ⟨S, sl, ok, fun v S1 H1 l1 ok1 r1 => by
    obtain ⟨a, xs, e0, h1, h2⟩ : ∃ a xs, v = .ref a ∧ SqT X.K S1 a xs ∧ RepL X.K S1 xs ds := by
      rcases hg with z | z
      · subst z; cases r1 with | tup a b => exact ⟨_, _, rfl, SqT.of a, b⟩
      · subst z; cases r1 with | rt a b => exact ⟨_, _, rfl, a, b⟩
    subst e0
    have : True := True.intro
    · refine ⟨a, rfl, ⟨xs, sqT_le ok1.s h1⟩, q S1 H1 _ _ _ l1 ok1 (by rw [← h2.len]; exact walk_tup) (fun F2 S2 M2 H2 l2 ok2 _ => sqT_le ok2.s (sqT_le l2 h1)) fun i x F2 S2 M2 H2 H3 hi l2 ok2 _ y => ?_⟩
      obtain ⟨e1, e2⟩ := y
      subst e1
      obtain ⟨d, h3, h4⟩ := (h2.mono l2).atV e2
      exact ⟨S2, Le.refl _, ok2, by rw [atD_of h3]; exact h4⟩⟩
def ixD (lo : Int) (i : Nat) : D := .int (lo + i)
theorem it_range1 {j : Int} (ha : EV X Γ M a (.int j) M') (hj : -(2 ^ 62) ≤ j ∧ j < 2 ^ 62) (hm : X.mg "range" = none) (hg : Gl X "range") (hs : starEach [a] X.env = [(false, eval a X.env)]) :
    IT X Γ M tg (.Call (.Name "range" p) [a] [] pos) j.toNat (ixD 0) (fun _ => True) M' := fun F =>
  (pi_range1 hg hm (pa_cons (ha F) pa_nil hs) hs).imp fun σ H R ⟨S, sl, ok, q⟩ => ⟨S, sl, ok, fun v S1 H1 l1 ok1 r1 => ⟨j, by rw [r1.intE], hj.1, hj.2,
    q S1 H1 _ _ _ l1 ok1 walk_range (fun _ _ _ _ _ _ _ => True.intro) fun i x F2 S2 M2 H2 H3 hi l2 ok2 _ ⟨e1, e2⟩ => by
      subst e1; subst e2
      exact ⟨S2, Le.refl _, ok2, .int _⟩⟩⟩
theorem it_range2 {i j : Int} (ha : EV X Γ M a (.int i) M1) (hb : EV X Γ M1 b (.int j) M') (hi : -(2 ^ 62) ≤ i ∧ i < 2 ^ 62) (hj : -(2 ^ 62) ≤ j ∧ j < 2 ^ 62) (hm : X.mg "range" = none) (hg : Gl X "range") (hs : starEach [a, b] X.env = [(false, eval a X.env), (false, eval b X.env)]) (hs2 : starEach [b] X.env = [(false, eval b X.env)]) :
    IT X Γ M tg (.Call (.Name "range" p) [a, b] [] pos) (j - i).toNat (ixD i) (fun _ => True) M' := fun F =>
  (pi_range2 hg hm (pa_cons (ha F) (pa_cons (hb F) pa_nil hs2) (by rw [hs, hs2])) hs hs2).imp fun σ H R ⟨S, sl, ok, q⟩ => ⟨S, sl, ok, fun v S1 H1 l1 ok1 r1 => ⟨S1, sl.mono l1, ok1, fun w S2 H2 l2 ok2 r2 => ⟨i, j, by rw [r1.intE, r2.intE], ⟨hi.1, hi.2, hj.1, hj.2⟩,
    q S2 H2 _ _ _ (l1.trans l2) ok2 walk_range (fun _ _ _ _ _ _ _ => True.intro) fun i' x F2 S2 M2 H2 H3 hi l2 ok2 _ ⟨e1, e2⟩ => by
      subst e1; subst e2
      exact ⟨S2, Le.refl _, ok2, .int _⟩⟩⟩⟩

/-! ### for -/
theorem s1_for {body : List Stmt} (Iv : Nat → Gam → MS → Prop) (up : Nat → Gam → Gam) (hi : IT X Γ M tg iter n Yd Gd M1) (hp : PassesOwn (model X.prog X.w) X.A X.env X.xe) (hc : X.calm = true) (hs : ∀ x, foldedSetIterable iter X.env x = pure x)
    (h0 : Iv 0 Γ M1) (hG : ∀ i Γ' M', i ≤ n → Iv i Γ' M' → Gd M') (hA : ∀ i Γ' M', i < n → Iv i Γ' M' → AS X Γ' M' tg (Yd i) (up i Γ'))
    (hb : ∀ i Γ' M', i < n → Iv i Γ' M' → SS X (up i Γ') M' body { nx := Iv (i + 1), ct := Iv (i + 1), bk := P.nx, rt := P.rt }) (hd : ∀ Γ' M', Iv n Γ' M' → P.nx Γ' M') : S1 X Γ M (.For tg iter body [] pos) P := fun F => by
  have pg : PG X tg (fun v σ H Q => ∃ q : Nat × Gam × MS, (q.1 < n ∧ Iv q.1 q.2.1 q.2.2) ∧ gAs X.K F (Yd q.1) q.2.1 q.2.2 (up q.1 q.2.1) v σ H Q) := PG.exP fun q hq => hA q.1 q.2.1 q.2.2 hq.1 hq.2 F
  have pb : PSs X body (fun E σ H => ∃ q : Nat × Gam × MS, (q.1 < n ∧ Iv q.1 q.2.1 q.2.2) ∧ tSv X.K F (up q.1 q.2.1) q.2.2 { nx := Iv (q.1 + 1), ct := Iv (q.1 + 1), bk := P.nx, rt := P.rt } E σ H) := PSs.exP fun q hq => hb q.1 q.2.1 q.2.2 hq.1 hq.2 F
  refine (ps_for hp hc (hi F) pg pb hs).imp fun E σ H ⟨S, sl, ok, fin⟩ => ⟨S, sl, ok, fun S1 H1 J G Y l1 ok1 wk hG' hY => ?_⟩
  refine for_it (g := (fun v σ H Q => ∃ q : Nat × Gam × MS, (q.1 < n ∧ Iv q.1 q.2.1 q.2.2) ∧ gAs X.K F (Yd q.1) q.2.1 q.2.2 (up q.1 q.2.1) v σ H Q)) (tb := (fun E σ H => ∃ q : Nat × Gam × MS, (q.1 < n ∧ Iv q.1 q.2.1 q.2.2) ∧ tSv X.K F (up q.1 q.2.1) q.2.2 { nx := Iv (q.1 + 1), ct := Iv (q.1 + 1), bk := P.nx, rt := P.rt } E σ H)) (D := E) wk (fun i σ H => ∃ S2 Γ2 M2, Le S1 S2 ∧ Iv i Γ2 M2 ∧ Sl X.K S2 Γ2 σ ∧ Ok X.K F S2 M2 H) ⟨S1, Γ, M1, Le.refl _, h0, sl.mono l1, ok1⟩ (fun i σ H hin ⟨S2, Γ2, M2, l2, iv, sl2, ok2⟩ => hG' F S2 M2 H l2 ok2 (hG i Γ2 M2 hin iv))
    (fun i x σ H H' hin ⟨S2, Γ2, M2, l2, iv, sl2, ok2⟩ y => ?_) fun σ H ⟨S2, Γ2, M2, l2, iv, sl2, ok2⟩ => fin.nx _ _ S2 Γ2 M2 (hd Γ2 M2 iv) (l1.trans l2) sl2 ok2
  obtain ⟨S3, l3, ok3, r3⟩ := hY i x F S2 M2 H H' hin l2 ok2 (hG i Γ2 M2 (Nat.le_of_lt hin) iv) y
  refine ⟨(i, Γ2, M2), ⟨hin, iv⟩, S3, r3, sl2.mono l3, ok3, fun σ4 H4 S4 l4 sl4 ok4 => ⟨(i, Γ2, M2), ⟨hin, iv⟩, S4, sl4, ok4, ?_⟩⟩
  have lx : Le S1 S4 := (l2.trans l3).trans l4
  exact ⟨fun a b S5 Γ5 M5 p l sl5 ok5 => ⟨S5, Γ5, M5, lx.trans l, p, sl5, ok5⟩, fun a b S5 d M5 p l ok5 r5 => fin.rt a b S5 d M5 p ((l1.trans lx).trans l) ok5 r5, fun a b S5 Γ5 M5 p l sl5 ok5 => fin.nx a b S5 Γ5 M5 p ((l1.trans lx).trans l) sl5 ok5,
    fun a b S5 Γ5 M5 p l sl5 ok5 => ⟨S5, Γ5, M5, lx.trans l, p, sl5, ok5⟩, fun _ _ _ _ _ _ p => p.elim⟩
/-- for, then the rest -/
theorem ss_for {body rest : List Stmt} (Iv : Nat → Gam → MS → Prop) (up : Nat → Gam → Gam) (hi : IT X Γ M tg iter n Yd Gd M1) (hp : PassesOwn (model X.prog X.w) X.A X.env X.xe) (hc : X.calm = true) (hs : ∀ x, foldedSetIterable iter X.env x = pure x)
    (h0 : Iv 0 Γ M1) (hG : ∀ i Γ' M', i ≤ n → Iv i Γ' M' → Gd M') (hA : ∀ i Γ' M', i < n → Iv i Γ' M' → AS X Γ' M' tg (Yd i) (up i Γ'))
    (hb : ∀ i Γ' M', i < n → Iv i Γ' M' → SS X (up i Γ') M' body { nx := Iv (i + 1), ct := Iv (i + 1), bk := fun Γ' M' => SS X Γ' M' rest P, rt := P.rt }) (hd : ∀ Γ' M', Iv n Γ' M' → SS X Γ' M' rest P) : SS X Γ M (.For tg iter body [] pos :: rest) P :=
  ss_cons (N := fun Γ' M' => SS X Γ' M' rest P) (s1_for Iv up hi hp hc hs h0 hG hA hb hd) fun _ _ h => h

/-! ### while -/
theorem ss_while {body rest : List Stmt} (Iv : Nat → Gam → MS → Prop) (hp : PassesOwn (model X.prog X.w) X.A X.env X.xe) (m0 : Nat) (h0 : Iv m0 Γ M)
    (hb : ∀ m Γ' M', Iv m Γ' M' → ∃ t M2, ET X Γ' M' c t M2 ∧ (t = true → SS X Γ' M2 body { nx := fun a b => ∃ m', m' < m ∧ Iv m' a b, ct := fun a b => ∃ m', m' < m ∧ Iv m' a b, bk := fun a b => SS X a b rest P, rt := P.rt }) ∧ (t = false → SS X Γ' M2 rest P)) :
    SS X Γ M (.While c body [] pos :: rest) P :=
  ss_cons (N := fun Γ' M' => SS X Γ' M' rest P) (fun F => by
    have hb' : ∀ q : Nat × Gam × MS, Iv q.1 q.2.1 q.2.2 → ∃ r : Bool × MS, ET X q.2.1 q.2.2 c r.1 r.2 ∧ (r.1 = true → SS X q.2.1 r.2 body { nx := fun a b => ∃ m', m' < q.1 ∧ Iv m' a b, ct := fun a b => ∃ m', m' < q.1 ∧ Iv m' a b, bk := fun a b => SS X a b rest P, rt := P.rt }) ∧ (r.1 = false → SS X q.2.1 r.2 rest P) := fun q hq => by
      obtain ⟨t, M2, h⟩ := hb q.1 q.2.1 q.2.2 hq
      exact ⟨(t, M2), h⟩
    have pc : PT X c (fun σ H Q => ∃ q : (Nat × Gam × MS) × (Bool × MS), (Iv q.1.1 q.1.2.1 q.1.2.2 ∧ ET X q.1.2.1 q.1.2.2 c q.2.1 q.2.2) ∧ tTv X.K F q.1.2.1 q.1.2.2 q.2.1 q.2.2 σ H Q) := PT.exP fun q hq => hq.2 F
    have pb : PSs X body (fun E σ H => ∃ q : (Nat × Gam × MS) × MS, (SS X q.1.2.1 q.2 body { nx := fun a b => ∃ m', m' < q.1.1 ∧ Iv m' a b, ct := fun a b => ∃ m', m' < q.1.1 ∧ Iv m' a b, bk := fun a b => SS X a b rest P, rt := P.rt }) ∧
        tSv X.K F q.1.2.1 q.2 { nx := fun a b => ∃ m', m' < q.1.1 ∧ Iv m' a b, ct := fun a b => ∃ m', m' < q.1.1 ∧ Iv m' a b, bk := fun a b => SS X a b rest P, rt := P.rt } E σ H) := PSs.exP fun q hq => hq F
    refine (ps_while hp pc pb).imp fun E σ H ⟨S, sl, ok, fin⟩ => ⟨fun m σ H => ∃ S2 Γ2 M2, Le S S2 ∧ Iv m Γ2 M2 ∧ Sl X.K S2 Γ2 σ ∧ Ok X.K F S2 M2 H, ⟨m0, S, Γ, M, Le.refl _, h0, sl, ok⟩, fun m σ1 H1 ⟨S2, Γ2, M2, l2, iv, sl2, ok2⟩ => ?_⟩
    obtain ⟨⟨t, M3⟩, e1, e2, e3⟩ := hb' (m, Γ2, M2) iv
    refine ⟨((m, Γ2, M2), (t, M3)), ⟨iv, e1⟩, S2, sl2, ok2, fun S4 H4 l4 ok4 => ?_⟩
    cases t with
    | true =>
      refine iteT ⟨fun σ' H' => ∃ m', m' < m ∧ ∃ S2 Γ2 M2, Le S S2 ∧ Iv m' Γ2 M2 ∧ Sl X.K S2 Γ2 σ' ∧ Ok X.K F S2 M2 H', fun σ' H' h => h, ((m, Γ2, M2), M3), e2 rfl, S4, sl2.mono l4, ok4, ?_⟩
      exact ⟨fun a b S5 Γ5 M5 ⟨m', hm, p⟩ l sl5 ok5 => ⟨m', hm, S5, Γ5, M5, (l2.trans l4).trans l, p, sl5, ok5⟩, fun a b S5 d M5 p l ok5 r5 => fin.rt a b S5 d M5 p ((l2.trans l4).trans l) ok5 r5, fun a b S5 Γ5 M5 p l sl5 ok5 => fin.nx a b S5 Γ5 M5 p ((l2.trans l4).trans l) sl5 ok5,
        fun a b S5 Γ5 M5 ⟨m', hm, p⟩ l sl5 ok5 => ⟨m', hm, S5, Γ5, M5, (l2.trans l4).trans l, p, sl5, ok5⟩, fun _ _ _ _ _ _ p => p.elim⟩
    | false => exact iteF (fin.nx _ _ S4 Γ2 M3 (e3 rfl) (l2.trans l4) (sl2.mono l4) ok4)) fun _ _ h => h
end

/-! ### comprehensions -/
def wipeG (Γ : Gam) : List Nat → Gam
  | [] => Γ
  | v :: vs => (wipeG Γ vs).set v none
theorem sl_wipe {K : PySem.W.Frag} {S : Hp} {Γ : Gam} {σ : L2.St} (h : Sl K S Γ σ) : ∀ vs : List Nat, Sl K S (wipeG Γ vs) (wipe σ vs)
  | [] => h
  | v :: vs => (sl_wipe h vs).set0
theorem wipe_at (σ : L2.St) : ∀ (vs : List Nat) (j : Nat), (wipe σ vs)[j]? = if j ∈ vs then (if j < σ.length then some none else none) else σ[j]?
  | [], j => by simp [wipe]
  | v :: vs, j => by
    unfold wipe
    by_cases z : v = j
    · subst z
      rw [if_pos (by simp)]
      by_cases hl : v < σ.length
      · rw [List.getElem?_set_self (by rw [wipe_length]; exact hl), if_pos hl]
      · rw [List.getElem?_eq_none (by rw [List.length_set, wipe_length]; omega), if_neg hl]
    · rw [List.getElem?_set_ne z, wipe_at σ vs j]
      by_cases h : j ∈ vs
      · rw [if_pos h, if_pos (List.mem_cons_of_mem _ h)]
      · rw [if_neg h, if_neg]
        intro q
        rcases List.mem_cons.mp q with q | q
        · exact z q.symm
        · exact h q
theorem wipe_set {σ : L2.St} {vs : List Nat} {i : Nat} {u : Option V} (h : i ∈ vs) : wipe (σ.set i u) vs = wipe σ vs := by
  apply List.ext_getElem?
  intro j
  rw [wipe_at, wipe_at, List.length_set]
  by_cases z : j ∈ vs
  · rw [if_pos z, if_pos z]
  · rw [if_neg z, if_neg z, List.getElem?_set_ne (fun q => z (by rw [← q]; exact h))]
theorem wipe_wipe {σ : L2.St} {vs : List Nat} : wipe (wipe σ vs) vs = wipe σ vs := by
  apply List.ext_getElem?
  intro j
  rw [wipe_at, wipe_at, wipe_length]
  by_cases z : j ∈ vs
  · rw [if_pos z, if_pos z]
  · rw [if_neg z, if_neg z]

abbrev Bk (X : Cx) (scope : Scope) (s : Shared) (H : Hp) (C : Addr) (cl : List (Str × Addr)) (fp : List Addr) : Cx := X.blk s H scope (compEnvC scope cl C X.env) fp
/-- a comprehension's target -/
def TgOk (X : Cx) (scope : Scope) (vs : List Nat) (tg : Expr) (shape : D → Prop) (up : D → Gam → Gam) : Prop := ∃ g : TG, (∀ s H C cl fp, PG (Bk X scope s H C cl fp) tg g) ∧
  ∀ F S M d Γ v σ H (Q : L2.St → Hp → Prop), shape d → Rep X.K S v d → Sl X.K S Γ σ → Ok X.K F S M H → (∀ σ', wipe σ' vs = wipe σ vs → Sl X.K S (up d Γ) σ' → Q σ' H) → g v σ H Q
def EVb (X : Cx) (scope : Scope) (Γ : Gam) (M : MS) (e : Expr) (g : D) (M' : MS) : Prop := ∀ s H C cl fp, EV (Bk X scope s H C cl fp) Γ M e g M'
def tTs (X : Cx) (Γ : Gam) (M : MS) (ifs : List Expr) (b : Bool) (M' : MS) : Prop := ∀ F, PTs X ifs (tTv X.K F Γ M b M')
def ETb (X : Cx) (scope : Scope) (Γ : Gam) (M : MS) (ifs : List Expr) (b : Bool) (M' : MS) : Prop := ∀ s H C cl fp, tTs (Bk X scope s H C cl fp) Γ M ifs b M'
section
variable {X : Cx} {scope : Scope} {Γ : Gam} {M M' M1 M2 M3 : MS} {e elt iter tg : Expr} {ifs : List Expr} {g : D} {ds : List D} {pos p : Pos} {n : Nat} {Yd : Nat → D} {Gd : MS → Prop} {own : List (Str × Nat)} {up : D → Gam → Gam} {shape : D → Prop}
theorem etb_nil : ETb X scope Γ M [] true M := fun s H C cl fp F => pts_nil.imp fun σ H Q ⟨S, sl, ok, res⟩ => res S H (Le.refl _) ok
theorem etb_one {t : Bool} (h : ∀ s H C cl fp, ET (Bk X scope s H C cl fp) Γ M e t M') : ETb X scope Γ M [e] t M' := fun s H C cl fp F => pts_one (h s H C cl fp F)
theorem tgOk_name (i : Nat) {x : Str} {vs : List Nat} (hN : X.N.Nodup) (hi : X.N[i]? = some x) (hv : i ∈ vs) (hx : ∀ s H C cl fp, Loc (Bk X scope s H C cl fp).env.scope x) (hf : ∀ s H C cl fp, (Bk X scope s H C cl fp).fn x = true ∨ (Bk X scope s H C cl fp).env.scope.names.lookup x = some .local) :
    TgOk X scope vs (.Name x pos) (fun _ => True) (fun d Γ => Γ.set i (some d)) :=
  ⟨gName i, fun s H C cl fp => pg_name (X := Bk X scope s H C cl fp) hN hi (hx s H C cl fp) (hf s H C cl fp), fun F S M d Γ v σ H Q _ r sl ok k => k _ (wipe_set hv) (sl.set r)⟩
theorem tgOk_pair (i j : Nat) {x y : Str} {vs : List Nat} {k0 : Nat} {px py : Pos} (hc : X.calm = true) (hN : X.N.Nodup) (hi : X.N[i]? = some x) (hj : X.N[j]? = some y) (hv : i ∈ vs) (hv2 : j ∈ vs) (hx : ∀ s H C cl fp, Loc (Bk X scope s H C cl fp).env.scope x) (hf : ∀ s H C cl fp, (Bk X scope s H C cl fp).fn x = true ∨ (Bk X scope s H C cl fp).env.scope.names.lookup x = some .local)
    (hy : ∀ s H C cl fp, Loc (Bk X scope s H C cl fp).env.scope y) (hfy : ∀ s H C cl fp, (Bk X scope s H C cl fp).fn y = true ∨ (Bk X scope s H C cl fp).env.scope.names.lookup y = some .local) :
    TgOk X scope vs (.Tuple [.Name x px, .Name y py] k0 pos) (fun d => ∃ d1 d2, d = .tup [d1, d2]) (fun d Γ => match d with | .tup [d1, d2] => (Γ.set i (some d1)).set j (some d2) | _ => Γ) :=
  ⟨gTup X.K 2 (gCons (gName i) (gCons (gName j) gNil)), fun s H C cl fp => pg_tup (X := Bk X scope s H C cl fp) hc (pgs_cons (pg_name (X := Bk X scope s H C cl fp) hN hi (hx s H C cl fp) (hf s H C cl fp)) (pgs_cons (pg_name (X := Bk X scope s H C cl fp) hN hj (hy s H C cl fp) (hfy s H C cl fp)) pgs_nil)),
    fun F S M d Γ v σ H Q hd r sl ok k => by
      obtain ⟨d1, d2, rfl⟩ := hd
      cases r with
      | tup h1 h2 =>
        have h1 := SqT.of (K := X.K) (ok.s _ _ h1)
        cases h2 with
        | cons r1 h2 =>
          cases h2 with
          | cons r2 h2 =>
            cases h2
            exact ⟨_, _, rfl, h1, rfl, _, _, rfl, _, _, rfl, rfl, k _ (by rw [wipe_set hv2, wipe_set hv]) ((sl.set r1).set r2)⟩⟩
/-- [elt for tg in iter if ..] -/
theorem en_lc (Iv : Nat → List D → MS → Prop) (hi : IT X Γ M tg iter n Yd Gd M1) (htg : TgOk X scope (own.map (·.2)) tg shape up) (ok : BlkOk X.N X.env.scope scope own) (hc : X.calm = true) (hN : X.N.Nodup) (hs : ∀ x, foldedSetIterable iter X.env x = pure x)
    (hn : n ≤ 100000) (h0 : Iv 0 [] M1) (hG : ∀ i acc M', i ≤ n → Iv i acc M' → Gd M') (hsh : ∀ i, i < n → shape (Yd i))
    (hb : ∀ i acc M', i < n → Iv i acc M' → ∃ t M2, ETb X scope (up (Yd i) (wipeG Γ (own.map (·.2)))) M' ifs t M2 ∧ (t = true → ∃ g M3, EVb X scope (up (Yd i) (wipeG Γ (own.map (·.2)))) M2 elt g M3 ∧ Iv (i + 1) (acc ++ [g]) M3) ∧ (t = false → Iv (i + 1) acc M2))
    (hd : ∀ acc M2, Iv n acc M2 → acc = ds ∧ M2 = M') : EN X Γ M (.ListComp elt [⟨tg, iter, ifs, 0⟩] scope pos) ds M' := fun F => by
  obtain ⟨gt, hg1, hg2⟩ := htg
  have ht : ∀ s H C cl fp, PTs (Bk X scope s H C cl fp) ifs (fun σ H Q => ∃ q : Hp × (Nat × MS) × (Bool × MS), ETb X scope (up (Yd q.2.1.1) (wipeG Γ (own.map (·.2)))) q.2.1.2 ifs q.2.2.1 q.2.2.2 ∧ tTv X.K q.1 (up (Yd q.2.1.1) (wipeG Γ (own.map (·.2)))) q.2.1.2 q.2.2.1 q.2.2.2 σ H Q) :=
    fun s H C cl fp => PTs.exP fun q hq => hq s H C cl fp q.1
  have he : ∀ s H C cl fp, PE (Bk X scope s H C cl fp) elt (fun σ H Q => ∃ q : Hp × (Nat × MS) × (D × MS), EVb X scope (up (Yd q.2.1.1) (wipeG Γ (own.map (·.2)))) q.2.1.2 elt q.2.2.1 q.2.2.2 ∧ tEv X.K q.1 (up (Yd q.2.1.1) (wipeG Γ (own.map (·.2)))) q.2.1.2 q.2.2.1 q.2.2.2 σ H Q) :=
    fun s H C cl fp => PE.exP fun q hq => hq s H C cl fp q.1
  refine (pe_lc hc hN (hi F) ok hg1 ht he hs).imp fun σ H Q ⟨S, sl, okS, res⟩ => ⟨S, sl, okS, fun S1 H1 J G Y l1 ok1 wk hG' hY Dl hD => ?_⟩
  obtain ⟨f1, f2, f3⟩ := ok1.fresh hD
  refine lc_it (g := gt) (tt := (fun σ H Q => ∃ q : Hp × (Nat × MS) × (Bool × MS), ETb X scope (up (Yd q.2.1.1) (wipeG Γ (own.map (·.2)))) q.2.1.2 ifs q.2.2.1 q.2.2.2 ∧ tTv X.K q.1 (up (Yd q.2.1.1) (wipeG Γ (own.map (·.2)))) q.2.1.2 q.2.2.1 q.2.2.2 σ H Q)) (te := (fun σ H Q => ∃ q : Hp × (Nat × MS) × (D × MS), EVb X scope (up (Yd q.2.1.1) (wipeG Γ (own.map (·.2)))) q.2.1.2 elt q.2.2.1 q.2.2.2 ∧ tEv X.K q.1 (up (Yd q.2.1.1) (wipeG Γ (own.map (·.2)))) q.2.1.2 q.2.2.1 q.2.2.2 σ H Q)) (vs := own.map (·.2)) (σ := σ) (D := Dl) (Qd := fun H => Q (.ref Dl) H) wk (fun i H => ∃ S2 M2 acc vs, Le S1 S2 ∧ Iv i acc M2 ∧ H Dl = some (.lst vs) ∧ RepL X.K S2 vs acc ∧ vs.length ≤ i ∧ Ok X.K F S2 M2 H ∧ S2 Dl = none ∧ F Dl = none ∧ M2 Dl = none) ?_ (fun i H hin ⟨S2, M2, acc, vs, l2, iv, _, _, _, ok2, _⟩ => hG' F S2 M2 H l2 ok2 (hG i acc M2 hin iv)) (fun i x H2 H3 hin ⟨S2, M2, acc, vs, l2, iv, hDl, rl, hle, ok2, n1, n2, n3⟩ y => ?_)
    fun H2 ⟨S2, M2, acc, vs, l2, iv, hDl, rl, hle, ok2, n1, n2, n3⟩ => ?_
  · refine ⟨S1, M1, [], [], Le.refl _, h0, upd_same, .nil, Nat.zero_le _, ⟨ok1.s.updR f1, ok1.f.updR f2, ok1.fs, fun a u e => ?_⟩, f1, f2, f3⟩
    obtain ⟨a1, a2, a3⟩ := ok1.m a u e
    exact ⟨a1.mono (Le.refl _) (upd_ne fun z => by rw [z, f3] at e; cases e), a2, a3⟩
  · have okF : Ok X.K (upd F Dl (.lst vs)) S2 M2 H2 := ⟨ok2.s, fun a u q => by
        by_cases z : a = Dl
        · subst z; rw [upd_same] at q; cases q; exact hDl
        · rw [upd_ne z] at q; exact ok2.f a u q, fun a ha => by
        by_cases z : a = Dl
        · subst z; exact n1
        · rw [upd_ne z] at ha; exact ok2.fs a ha, fun a u q => by
        obtain ⟨a1, a2, a3⟩ := ok2.m a u q
        exact ⟨a1, a2, by rw [upd_ne fun z => by rw [z, n3] at q; cases q]; exact a3⟩⟩
    have outF : ∀ {S5 : Hp} {M5 : MS} {H5 : Hp}, Ok X.K (upd F Dl (.lst vs)) S5 M5 H5 → Ok X.K F S5 M5 H5 ∧ S5 Dl = none ∧ M5 Dl = none ∧ H5 Dl = some (.lst vs) := fun {S5 M5 H5} o => by
      refine ⟨⟨o.s, fun a u q => o.f a u (by rw [upd_ne fun z => by rw [z, n2] at q; cases q]; exact q), fun a ha => o.fs a (by rw [upd_ne fun z => ha (by rw [z]; exact n2)]; exact ha), fun a u q => ?_⟩, o.fs Dl (by rw [upd_same]; simp), ?_, o.f Dl _ upd_same⟩
      · obtain ⟨a1, a2, a3⟩ := o.m a u q
        have : a ≠ Dl := fun z => by rw [z, upd_same] at a3; cases a3
        exact ⟨a1, a2, by rw [upd_ne this] at a3; exact a3⟩
      · cases q : M5 Dl with
        | none => rfl
        | some u =>
          have a3 := (o.m Dl u q).2.2
          rw [upd_same] at a3
          cases a3
    obtain ⟨S3, l3, ok3, r3⟩ := hY i x _ S2 M2 H2 H3 hin l2 okF (hG i acc M2 (Nat.le_of_lt hin) iv) y
    obtain ⟨t, M4, e1, e2, e3⟩ := hb i acc M2 hin iv
    refine hg2 _ S3 M2 (Yd i) (wipeG Γ (own.map (·.2))) x _ H3 _ (hsh i hin) r3 ((sl_wipe sl _).mono (l1.trans (l2.trans l3))) ok3 fun σ' hw sl' => ⟨by rw [hw, wipe_wipe], ?_⟩
    refine ⟨(_, (i, M2), (t, M4)), e1, S3, sl', ok3, fun S5 H5 l5 ok5 => ?_⟩
    cases t with
    | false =>
      obtain ⟨p1, p2, p3, p4⟩ := outF (M5 := M4) ok5
      exact iteF ⟨S5, M4, acc, vs, (l2.trans l3).trans l5, e3 rfl, p4, rl.mono (l3.trans l5), by omega, p1, p2, n2, p3⟩
    | true =>
      obtain ⟨g5, M6, e4, e5⟩ := e2 rfl
      refine iteT ⟨(_, (i, M4), (g5, M6)), e4, S5, sl'.mono l5, ok5, fun w S7 H7 l7 ok7 r7 => ?_⟩
      obtain ⟨p1, p2, p3, p4⟩ := outF (M5 := M6) ok7
      refine ⟨vs, p4, Nat.lt_of_le_of_lt hle (Nat.lt_of_lt_of_le hin (Nat.le_trans hn (by decide))), S7, M6, acc ++ [g5], vs ++ [w], (l2.trans l3).trans (l5.trans l7), e5, upd_same, (rl.mono (l3.trans (l5.trans l7))).app (.cons r7 .nil), by rw [List.length_append, List.length_singleton]; omega, ⟨p1.s.updR p2, p1.f.updR n2, p1.fs, fun a u q => ?_⟩, p2, n2, p3⟩
      obtain ⟨a1, a2, a3⟩ := p1.m a u q
      exact ⟨a1.mono (Le.refl _) (upd_ne fun z => by rw [z, p3] at q; cases q), a2, a3⟩
  · obtain ⟨q1, q2⟩ := hd acc M2 iv
    subst q1; subst q2
    exact res Dl vs S2 H2 (l1.trans l2) ok2 n1 n2 n3 hDl rl
end
end Sy

set_option Elab.async false
set_option linter.all false
set_option maxRecDepth 100000
set_option maxHeartbeats 2000000
/-! Sy6: operations on values -/
namespace Sy
open PySem PySem.Spec PyProof.Rows L2

/-- a flat value -/
def D.fl : D → Bool
  | .non => true | .bl _ => true | .int _ => true | .str _ => true
  | _ => false
def D.v : D → V
  | .non => .non | .bl b => .bl b | .int i => .int i | .str x => .str x
  | _ => .non
theorem Rep.flat {K : PySem.W.Frag} {S : Hp} {v : V} {d : D} (h : Rep K S v d) (f : d.fl = true) : v = d.v := by
  cases h <;> first | rfl | exact absurd (show false = true from f) Bool.false_ne_true
theorem RepL.flat {K : PySem.W.Frag} {S : Hp} : ∀ {vs : List V} {ds : List D}, RepL K S vs ds → ds.all D.fl = true → vs = ds.map D.v
  | _, _, .nil, _ => rfl
  | _, _, .cons h r, f => by
    rw [List.all_cons, Bool.and_eq_true] at f
    rw [List.map_cons, h.flat f.1, RepL.flat r f.2]
theorem RepL.intsE {K : PySem.W.Frag} {S : Hp} : ∀ {vs : List V} {ns : List Int}, RepL K S vs (ns.map D.int) → vs = ns.map V.int
  | _, [], .nil => rfl
  | _, n :: ns, .cons h r => by rw [List.map_cons, h.intE, RepL.intsE r]
theorem RepL.blsE {K : PySem.W.Frag} {S : Hp} : ∀ {vs : List V} {ns : List Bool}, RepL K S vs (ns.map D.bl) → vs = ns.map V.bl
  | _, [], .nil => rfl
  | _, n :: ns, .cons h r => by rw [List.map_cons, h.blE, RepL.blsE r]
theorem RepL.strsE {K : PySem.W.Frag} {S : Hp} : ∀ {vs : List V} {ns : List Str}, RepL K S vs (ns.map D.str) → vs = ns.map V.str
  | _, [], .nil => rfl
  | _, n :: ns, .cons h r => by rw [List.map_cons, h.strE, RepL.strsE r]
def TupOf (g : D) (ds : List D) : Prop := g = .tup ds ∨ g = .rt ds
theorem TupOf.get {K : PySem.W.Frag} {F S H : Hp} {M : MS} {g : D} {ds : List D} {v : V} (h : TupOf g ds) (ok : Ok K F S M H) (r : Rep K S v g) : ∃ a xs, v = .ref a ∧ SqT K H a xs ∧ RepL K S xs ds := by
  rcases h with e | e
  · subst e
    cases r with | tup h1 h2 => exact ⟨_, _, rfl, SqT.of (ok.s _ _ h1), h2⟩
  · subst e
    cases r with | rt h1 h2 => exact ⟨_, _, rfl, sqT_le ok.s h1, h2⟩
/-- a list or a tuple that is read -/
def SeqOf (M : MS) (g : D) (ds : List D) : Prop := LstOf M g ds ∨ TupOf g ds

section
variable {X : Cx} {Γ : Gam} {M M' M1 M2 M3 : MS} {e a b c : Expr} {g ga gb gc : D} {ds es gs : List D} {pos p : Pos} {i j : Int} {op : CmpOp}

/-! ### ints -/
theorem od_add : OpD X (binaryOp .Add) (.int i) (.int j) M (.int (i + j)) M := .scal op_add rfl rfl rfl fun H Q q => ⟨i, j, rfl, rfl, q⟩
theorem od_sub : OpD X (binaryOp .Sub) (.int i) (.int j) M (.int (i - j)) M := .scal op_sub rfl rfl rfl fun H Q q => ⟨i, j, rfl, rfl, q⟩
theorem od_mulL (h : -(2 ^ 64) < i ∧ i < 2 ^ 64) : OpD X (binaryOp .Mult) (.int i) (.int j) M (.int (i * j)) M := .scal op_mul rfl rfl rfl fun H Q q => ⟨i, j, rfl, rfl, .inl h, q⟩
theorem od_mulR (h : -(2 ^ 64) < j ∧ j < 2 ^ 64) : OpD X (binaryOp .Mult) (.int i) (.int j) M (.int (i * j)) M := .scal op_mul rfl rfl rfl fun H Q q => ⟨i, j, rfl, rfl, .inr h, q⟩
theorem od_fdiv (h : 0 < j ∧ j < 1073741824) : OpD X (binaryOp .FloorDiv) (.int i) (.int j) M (.int (i / j)) M := .scal op_fdiv rfl rfl rfl fun H Q q => ⟨i, j, rfl, rfl, h, q⟩
theorem od_mod (h : 0 < j) : OpD X (binaryOp .Mod) (.int i) (.int j) M (.int (i % j)) M := .scal op_mod rfl rfl rfl fun H Q q => ⟨i, j, rfl, rfl, h, q⟩
theorem od_pow (h : 0 ≤ j ∧ j ≤ 1000000 ∧ i.natAbs < 2 ^ 64) : OpD X (binaryOp .Pow) (.int i) (.int j) M (.int (i ^ j.toNat)) M := .scal op_pow rfl rfl rfl fun H Q q => ⟨i, j, rfl, rfl, h, q⟩
theorem ev_neg (h : EV X Γ M a (.int i) M') : EV X Γ M (.UnaryOp .USub a pos) (.int (-i)) M' := fun F => (pe_un un_neg (h F)).imp fun σ H Q ⟨S, sl, ok, res⟩ => ⟨S, sl, ok, fun v S1 H1 l1 ok1 r1 => ⟨i, r1.intE, res _ S1 H1 l1 ok1 (.int _)⟩⟩
/-! ### comparisons -/
theorem oc_lt : OpD X (compareOp .Lt) (.int i) (.int j) M (.bl (decide (i < j))) M := .scal op_lt rfl rfl rfl fun H Q q => ⟨i, j, rfl, rfl, q⟩
theorem oc_le : OpD X (compareOp .LtE) (.int i) (.int j) M (.bl (decide (i ≤ j))) M := .scal op_le rfl rfl rfl fun H Q q => ⟨i, j, rfl, rfl, q⟩
theorem oc_gt : OpD X (compareOp .Gt) (.int i) (.int j) M (.bl (decide (j < i))) M := .scal op_gt rfl rfl rfl fun H Q q => ⟨i, j, rfl, rfl, q⟩
theorem oc_ge : OpD X (compareOp .GtE) (.int i) (.int j) M (.bl (decide (j ≤ i))) M := .scal op_ge rfl rfl rfl fun H Q q => ⟨i, j, rfl, rfl, q⟩
theorem deq_int : decide (V.int i = V.int j) = decide (i = j) := decide_eq_decide.mpr ⟨fun h => V.int.inj h, fun h => congrArg _ h⟩
theorem deq_str {x y : Str} : decide (V.str x = V.str y) = decide (x = y) := decide_eq_decide.mpr ⟨fun h => V.str.inj h, fun h => congrArg _ h⟩
theorem deq_bl {x y : Bool} : decide (V.bl x = V.bl y) = decide (x = y) := decide_eq_decide.mpr ⟨fun h => V.bl.inj h, fun h => congrArg _ h⟩
theorem oc_eq : OpD X (compareOp .Eq) (.int i) (.int j) M (.bl (decide (i = j))) M := .scal op_eq rfl rfl rfl fun H Q q => ⟨rfl, by rw [deq_int]; exact q⟩
theorem oc_ne : OpD X (compareOp .NotEq) (.int i) (.int j) M (.bl (!decide (i = j))) M := .scal op_ne rfl rfl rfl fun H Q q => ⟨rfl, by rw [deq_int]; exact q⟩
theorem oc_eqS {x y : Str} : OpD X (compareOp .Eq) (.str x) (.str y) M (.bl (decide (x = y))) M := .scal op_eq rfl rfl rfl fun H Q q => ⟨rfl, by rw [deq_str]; exact q⟩
theorem oc_neS {x y : Str} : OpD X (compareOp .NotEq) (.str x) (.str y) M (.bl (!decide (x = y))) M := .scal op_ne rfl rfl rfl fun H Q q => ⟨rfl, by rw [deq_str]; exact q⟩
theorem oc_eqB {x y : Bool} : OpD X (compareOp .Eq) (.bl x) (.bl y) M (.bl (decide (x = y))) M := .scal op_eq rfl rfl rfl fun H Q q => ⟨rfl, by rw [deq_bl]; exact q⟩
theorem oc_neB {x y : Bool} : OpD X (compareOp .NotEq) (.bl x) (.bl y) M (.bl (!decide (x = y))) M := .scal op_ne rfl rfl rfl fun H Q q => ⟨rfl, by rw [deq_bl]; exact q⟩
/-- scalars of unlike kinds -/
theorem oc_eqX {va vb : V} (ea : ga.scal = some va) (eb : gb.scal = some vb) (h : L2.scal va vb = true) : OpD X (compareOp .Eq) ga gb M (.bl (decide (va = vb))) M := .scal op_eq ea eb rfl fun H Q q => ⟨h, q⟩
theorem oc_ltS {x y : Str} : OpD X (compareOp .Lt) (.str x) (.str y) M (.bl (decide (x.cps.toList < y.cps.toList))) M := .scal op_lt_str rfl rfl rfl fun H Q q => ⟨x, y, rfl, rfl, q⟩
theorem oc_leS {x y : Str} : OpD X (compareOp .LtE) (.str x) (.str y) M (.bl (!decide (y.cps.toList < x.cps.toList))) M := .scal op_le_str rfl rfl rfl fun H Q q => ⟨x, y, rfl, rfl, q⟩
def D.isNon : D → Bool
  | .non => true
  | _ => false
theorem rep_non {K : PySem.W.Frag} {S : Hp} {v : V} (h : Rep K S v g) (hr : ∀ w, g ≠ .raw w) : decide (v = .non) = g.isNon := by
  cases h <;> first | (simp [D.isNon]; done) | exact absurd rfl (hr _)
theorem oc_is (hr : ∀ w, g ≠ .raw w) : OpD X (compareOp .Is) g .non M (.bl g.isNon) M := ⟨_, op_isN, fun F S H x y Q ok rx ry res => ⟨ry.nonE, by rw [rep_non rx hr]; exact res.scal ok rfl⟩⟩
theorem oc_isnot (hr : ∀ w, g ≠ .raw w) : OpD X (compareOp .IsNot) g .non M (.bl (!g.isNon)) M := ⟨_, op_notN, fun F S H x y Q ok rx ry res => ⟨ry.nonE, by rw [rep_non rx hr]; exact res.scal ok rfl⟩⟩
/-- x in a list or a tuple of flat things -/
theorem fl_flatV {d : D} (h : d.fl = true) : flatV d.v = true := by
  cases d <;> first | rfl | exact absurd (show false = true from h) Bool.false_ne_true
theorem fl_all {ds : List D} (h : ds.all D.fl = true) : (ds.map D.v).all flatV = true := by
  rw [List.all_map]
  exact List.all_eq_true.mpr fun d hd => fl_flatV (List.all_eq_true.mp h d hd)
def inD (g : D) (ds : List D) : Bool := inV g.v (ds.map D.v)
theorem oc_in (hs : SeqOf M gb ds) (hg : ga.fl = true) (hd : ds.all D.fl = true) : OpD X (compareOp .In) ga gb M (.bl (inD ga ds)) M := ⟨_, op_in_seq, fun F S H x y Q ok rx ry res => by
  have hx := rx.flat hg
  subst hx
  rcases hs with hs | hs
  · obtain ⟨a, xs, e1, e2, e3⟩ := hs.get ok ry
    have := e3.flat hd
    subst this
    exact ⟨a, _, e1, .inl e2, fl_flatV hg, fl_all hd, res.scal ok rfl⟩
  · obtain ⟨a, xs, e1, e2, e3⟩ := hs.get ok ry
    have := e3.flat hd
    subst this
    exact ⟨a, _, e1, .inr e2, fl_flatV hg, fl_all hd, res.scal ok rfl⟩⟩
theorem oc_notin (hs : SeqOf M gb ds) (hg : ga.fl = true) (hd : ds.all D.fl = true) : OpD X (compareOp .NotIn) ga gb M (.bl (!inD ga ds)) M := ⟨_, op_notIn_seq, fun F S H x y Q ok rx ry res => by
  have hx := rx.flat hg
  subst hx
  rcases hs with hs | hs
  · obtain ⟨a, xs, e1, e2, e3⟩ := hs.get ok ry
    have := e3.flat hd
    subst this
    exact ⟨a, _, e1, .inl e2, fl_flatV hg, fl_all hd, res.scal ok rfl⟩
  · obtain ⟨a, xs, e1, e2, e3⟩ := hs.get ok ry
    have := e3.flat hd
    subst this
    exact ⟨a, _, e1, .inr e2, fl_flatV hg, fl_all hd, res.scal ok rfl⟩⟩
theorem fl_ints (ns : List Int) : (ns.map D.int).all D.fl = true := by rw [List.all_map]; exact List.all_eq_true.mpr fun _ _ => rfl
theorem inD_ints (i : Int) (ns : List Int) : inD (.int i) (ns.map D.int) = decide (i ∈ ns) := by
  unfold inD inV
  rw [List.map_map, List.any_map]
  induction ns with
  | nil => simp
  | cons n ns ih =>
    rw [List.any_cons, ih]
    by_cases h : n = i
    · subst h; simp [D.v, eqV]
    · have h' : ¬ i = n := fun z => h z.symm
      simp [D.v, eqV, h, h']
theorem oc_inI {ns : List Int} (hs : SeqOf M gb (ns.map D.int)) : OpD X (compareOp .In) (.int i) gb M (.bl (decide (i ∈ ns))) M := by
  rw [← inD_ints]; exact oc_in hs rfl (fl_ints ns)
theorem oc_notinI {ns : List Int} (hs : SeqOf M gb (ns.map D.int)) : OpD X (compareOp .NotIn) (.int i) gb M (.bl (!decide (i ∈ ns))) M := by
  rw [← inD_ints]; exact oc_notin hs rfl (fl_ints ns)

/-! ### data of any depth -/
mutual
def D.py : D → Option PyData
  | .non => some .none
  | .bl b => some (.bool b)
  | .int i => some (.int i)
  | .str x => some (.str x)
  | .lst ds => (D.pyL ds).map .list
  | .ro ds => (D.pyL ds).map .list
  | .tup ds => (D.pyL ds).map .tuple
  | .rt ds => (D.pyL ds).map .tuple
  | .obj _ _ _ => none
  | .raw _ => none
def D.pyL : List D → Option (List PyData)
  | [] => some []
  | d :: ds => match D.py d, D.pyL ds with
    | some p, some ps => some (p :: ps)
    | _, _ => none
end
mutual
theorem Rep.dp {K : PySem.W.Frag} {S H : Hp} (l : Le S H) : ∀ {v : V} {d : D} {q : PyData}, Rep K S v d → d.py = some q → Dp K H v q
  | _, _, _, .non, e => by cases e; exact .non
  | _, _, _, .bl b, e => by cases e; exact .bl b
  | _, _, _, .int i, e => by cases e; exact .int i
  | _, _, _, .str x, e => by cases e; exact .str x
  | _, _, _, .lst (ds := ds) h r, e => by
    simp only [D.py] at e
    cases q : D.pyL ds with
    | none => rw [q] at e; cases e
    | some ps => rw [q] at e; cases e; exact .lst (SqL.of (l _ _ h)) (RepL.dp l r q)
  | _, _, _, .tup (ds := ds) h r, e => by
    simp only [D.py] at e
    cases q : D.pyL ds with
    | none => rw [q] at e; cases e
    | some ps => rw [q] at e; cases e; exact .tup (SqT.of (l _ _ h)) (RepL.dp l r q)
  | _, _, _, .ro (ds := ds) h r, e => by
    simp only [D.py] at e
    cases q : D.pyL ds with
    | none => rw [q] at e; cases e
    | some ps => rw [q] at e; cases e; exact .lst (sqL_le l h) (RepL.dp l r q)
  | _, _, _, .rt (ds := ds) h r, e => by
    simp only [D.py] at e
    cases q : D.pyL ds with
    | none => rw [q] at e; cases e
    | some ps => rw [q] at e; cases e; exact .tup (sqT_le l h) (RepL.dp l r q)
  | _, _, _, .obj _ _ _, e => by cases e
  | _, _, _, .raw _, e => by cases e
theorem RepL.dp {K : PySem.W.Frag} {S H : Hp} (l : Le S H) : ∀ {vs : List V} {ds : List D} {qs : List PyData}, RepL K S vs ds → D.pyL ds = some qs → DpAll K H vs qs
  | _, _, _, .nil, e => by cases e; exact .nil
  | _, _, _, .cons (d := d) (ds := ds) h r, e => by
    simp only [D.pyL] at e
    cases q1 : D.py d with
    | none => rw [q1] at e; cases e
    | some p =>
      cases q2 : D.pyL ds with
      | none => rw [q1, q2] at e; cases e
      | some ps => rw [q1, q2] at e; cases e; exact .cons (Rep.dp l h q1) (RepL.dp l r q2)
end
/-- what a value tells, a list that changes too -/
def PyOf (M : MS) (g : D) (q : PyData) : Prop := g.py = some q ∨ ∃ a ds qs, g = .raw (.ref a) ∧ M a = some (.lst ds) ∧ D.pyL ds = some qs ∧ q = .list qs
theorem PyOf.dp {K : PySem.W.Frag} {F S H : Hp} {q : PyData} {v : V} (h : PyOf M g q) (ok : Ok K F S M H) (r : Rep K S v g) : Dp K H v q := by
  rcases h with h | ⟨a, ds, qs, e1, e2, e3, e4⟩
  · exact r.dp ok.s h
  · subst e1; subst e4
    obtain ⟨xs, h1, h2⟩ := (ok.m a _ e2).1
    rw [r.rawE]
    exact .lst (SqL.of h1) (h2.dp ok.s e3)
theorem oc_eqD {p q : PyData} (hu : X.A.units + 64 < cLine) (ha : PyOf M ga p) (hb : PyOf M gb q) (sp : SeqAt.shaped p = true) (sq : SeqAt.shaped q = true) : OpD X (compareOp .Eq) ga gb M (.bl (PyData.eqv p q)) M :=
  ⟨_, op_eqD hu, fun F S H x y Q ok rx ry res => ⟨p, q, ha.dp ok rx, hb.dp ok ry, sp, sq, res.scal ok rfl⟩⟩
theorem oc_neD {p q : PyData} (hu : X.A.units + 64 < cLine) (ha : PyOf M ga p) (hb : PyOf M gb q) (sp : SeqAt.shaped p = true) (sq : SeqAt.shaped q = true) : OpD X (compareOp .NotEq) ga gb M (.bl (!PyData.eqv p q)) M :=
  ⟨_, op_neD hu, fun F S H x y Q ok rx ry res => ⟨p, q, ha.dp ok rx, hb.dp ok ry, sp, sq, res.scal ok rfl⟩⟩
theorem pyL_ints : ∀ ns : List Int, D.pyL (ns.map D.int) = some (ns.map PyData.int)
  | [] => rfl
  | n :: ns => by simp only [List.map_cons, D.pyL, D.py]; rw [pyL_ints ns]
theorem eqvAll_ints : ∀ xs ys : List Int, PyData.eqvAll (xs.map PyData.int) (ys.map PyData.int) = decide (xs = ys)
  | [], [] => by simp [PyData.eqvAll]
  | [], _ :: _ => by simp [PyData.eqvAll]
  | _ :: _, [] => by simp [PyData.eqvAll]
  | x :: xs, y :: ys => by
    simp only [List.map_cons, PyData.eqvAll, PyData.eqv]
    rw [eqvAll_ints xs ys]
    by_cases h : x = y
    · subst h; simp
    · simp [h]
theorem lay_ints : ∀ ns : List Int, PyData.canLayAll0 (ns.map PyData.int) = true
  | [] => by simp [PyData.canLayAll0]
  | n :: ns => by simp [PyData.canLayAll0, PyData.canLay0, lay_ints ns]
theorem depth_ints : ∀ ns : List Int, PyData.depthAll (ns.map PyData.int) = 0
  | [] => by simp [PyData.depthAll]
  | n :: ns => by simp [PyData.depthAll, PyData.depth, depth_ints ns]
theorem shaped_intsL (ns : List Int) : SeqAt.shaped (.list (ns.map PyData.int)) = true := by
  simp [SeqAt.shaped, PyData.canLay0, PyData.depth, lay_ints, depth_ints]
theorem shaped_intsT (ns : List Int) : SeqAt.shaped (.tuple (ns.map PyData.int)) = true := by
  simp [SeqAt.shaped, PyData.canLay0, PyData.depth, lay_ints, depth_ints]

/-! ### texts -/
theorem od_addS {x y : Str} (h : x.length + y.length ≤ 100000) : OpD X (binaryOp .Add) (.str x) (.str y) M (.str (x ++ y)) M := .scal op_add_str rfl rfl rfl fun H Q q => ⟨x, y, rfl, rfl, Nat.le_trans h (by decide), q⟩
def rMulS : R2 := fun x y H Q => ∃ z n, x = .str z ∧ y = .int n ∧ MulOk z n ∧ Q (.str (Txt.mul z n)) H
theorem op_mulS : OpR X (binaryOp .Mult) rMulS := by
  intro pins s σ H x y v u Q I rx ry h
  obtain ⟨z, n, e1, e2, hm, q⟩ := h
  subst e1; subst e2
  obtain ⟨t, rfl⟩ := rx
  obtain ⟨t', rfl⟩ := ry
  exact SB.mul hm fun t2 k => ⟨.str (Txt.mul z n), H, I.tok _, ⟨t2, rfl⟩, q⟩
theorem mulOk_small {z : Str} {n : Int} (h1 : -1000 ≤ n) (h2 : n ≤ 1000) (hz : z.length ≤ 1000) : MulOk z n := by
  refine ⟨by simp; omega, fun h h' => ?_, fun h h' => ?_⟩
  · have : (1001 : Int) ≤ (2 ^ 63 - 1) / n := Int.le_ediv_of_mul_le (by omega) (by omega)
    omega
  · have : z.length * n.toNat ≤ 1000 * 1000 := Nat.mul_le_mul hz (by omega)
    unfold Builtin.Str.tooLong
    simp
    have hs : sizeLine = 16777216 := sizeLine_eq
    omega
theorem od_mulS {x : Str} {n : Int} (h1 : -1000 ≤ n) (h2 : n ≤ 1000) (hz : x.length ≤ 1000) : OpD X (binaryOp .Mult) (.str x) (.int n) M (.str (Txt.mul x n)) M := .scal op_mulS rfl rfl rfl fun H Q q => ⟨x, n, rfl, rfl, mulOk_small h1 h2 hz, q⟩

/-! ### tuples and lists put together -/
theorem od_addT (hl : ds.length + es.length ≤ 100000) : OpD X (binaryOp .Add) (.tup ds) (.tup es) M (.tup (ds ++ es)) M := ⟨_, op_catA, fun F S H x y Q ok rx ry res => by
  obtain ⟨a, xs, e1, e2, e3⟩ := (show TupOf (.tup ds) ds from .inl rfl).get ok rx
  obtain ⟨b, ys, f1, f2, f3⟩ := (show TupOf (.tup es) es from .inl rfl).get ok ry
  refine ⟨a, b, xs, ys, e1, f1, e2, f2, ?_, fun h => ?_, fun h h' => ?_, fun h h' p hp => res.newT ok (e3.app f3) hp⟩
  · rw [e3.len, f3.len]; exact Nat.le_trans hl (by decide)
  · have : ds = [] := by subst h; cases e3; rfl
    subst this
    rw [← f1]
    exact res.now ok ry
  · have : es = [] := by subst h'; cases f3; rfl
    subst this
    rw [← e1]
    rw [List.append_nil] at res
    exact res.now ok rx⟩
/-- a list that is no part of the text -/
def LstT (M : MS) (g : D) (ds : List D) : Prop := g = .lst ds ∨ ∃ p, g = .raw (.ref p) ∧ M p = some (.lst ds)
theorem LstT.of {M : MS} {g : D} {ds : List D} (h : LstT M g ds) : LstOf M g ds := h.elim .inl fun z => .inr (.inr z)
theorem LstT.get {K : PySem.W.Frag} {F S H : Hp} {v : V} (h : LstT M g ds) (ok : Ok K F S M H) (r : Rep K S v g) : ∃ a xs, v = .ref a ∧ H a = some (.lst xs) ∧ RepL K S xs ds := by
  rcases h with e | ⟨p, e, hp⟩
  · subst e
    cases r with | lst h1 h2 => exact ⟨_, _, rfl, ok.s _ _ h1, h2⟩
  · subst e
    obtain ⟨xs, h1, h2⟩ := (ok.m p _ hp).1
    exact ⟨p, xs, r.rawE, h1, h2⟩
theorem on_addL (ha : LstT M ga ds) (hb : LstT M gb es) (hl : ds.length + es.length ≤ 100000) : OpN X (binaryOp .Add) ga gb M (ds ++ es) := ⟨_, op_cat, fun F S H x y Q ok rx ry res => by
  obtain ⟨a, xs, e1, e2, e3⟩ := ha.get ok rx
  obtain ⟨b, ys, f1, f2, f3⟩ := hb.get ok ry
  exact ⟨a, b, xs, ys, e1, f1, e2, f2, by rw [e3.len, f3.len]; exact Nat.le_trans hl (by decide), fun p hp => res p _ hp (e3.app f3)⟩⟩
theorem RepL.repl {K : PySem.W.Frag} {S : Hp} {vs : List V} {ds : List D} (h : RepL K S vs ds) : ∀ k : Nat, RepL K S (List.replicate k vs).flatten (List.replicate k ds).flatten
  | 0 => .nil
  | k + 1 => by
    rw [List.replicate_succ, List.replicate_succ, List.flatten_cons, List.flatten_cons]
    exact h.app (RepL.repl h k)
theorem on_rep {k : Int} (ha : LstT M ga ds) (h1 : 0 ≤ k) (h2 : k ≤ 1000) (hl : ds.length ≤ 100) : OpN X (binaryOp .Mult) ga (.int k) M (List.replicate k.toNat ds).flatten := ⟨_, op_rep, fun F S H x y Q ok rx ry res => by
  obtain ⟨a, xs, e1, e2, e3⟩ := ha.get ok rx
  refine ⟨a, k, xs, e1, ry.intE, e2, by omega, by omega, ?_, fun p hp => res p _ hp (e3.repl _)⟩
  have : xs.length * k.toNat ≤ 100 * 1000 := Nat.mul_le_mul (by rw [e3.len]; exact hl) (by omega)
  exact Nat.le_trans this (by decide)⟩
/-! ### subscripts -/
theorem ev_ix (ha : EV X Γ M a ga M1) (hb : EV X Γ M1 b gb M2) (hi : ∃ r, IxR X r ∧ RD X.K r ga gb M2 g M3) (hs : PlainIx b) : EV X Γ M (.Subscript a b pos) g M3 := fun F => by
  obtain ⟨r, h1, h2⟩ := hi
  exact (pe_ix h1 (ha F) (hb F) hs).imp fun σ H Q ⟨S, sl, ok, res⟩ =>
    ⟨S, sl, ok, fun x S1 H1 l1 ok1 rx => ⟨S1, sl.mono l1, ok1, fun y S2 H2 l2 ok2 ry => h2 F S2 H2 x y Q ok2 (rx.mono l2) ry (res.up (l1.trans l2))⟩⟩
theorem RepL.atI {K : PySem.W.Frag} {S : Hp} {vs : List V} {ds : List D} {d : D} (h : RepL K S vs ds) (e : L2.atI ds i = some d) : ∃ v, L2.atI vs i = some v ∧ Rep K S v d := by
  unfold L2.atI at e ⊢
  rw [h.len]
  cases q : ixN ds.length i with
  | none => rw [q] at e; cases e
  | some j =>
    rw [q] at e
    exact h.at_ e
theorem oi_lst (hl : LstOf M ga ds) (h : atI ds i = some g) : ∃ r, IxR X r ∧ RD X.K r ga (.int i) M g M := ⟨_, ix_list, fun F S H x y Q ok rx ry res => by
  obtain ⟨a, xs, e1, e2, e3⟩ := hl.get ok rx
  obtain ⟨v, h1, h2⟩ := e3.atI h
  exact ⟨a, xs, i, v, e1, ry.intE, e2, h1, res.now ok h2⟩⟩
theorem oi_tup (hl : TupOf ga ds) (h : atI ds i = some g) : ∃ r, IxR X r ∧ RD X.K r ga (.int i) M g M := ⟨_, ix_tup, fun F S H x y Q ok rx ry res => by
  obtain ⟨a, xs, e1, e2, e3⟩ := hl.get ok rx
  obtain ⟨v, h1, h2⟩ := e3.atI h
  exact ⟨a, xs, i, v, e1, ry.intE, e2, h1, res.now ok h2⟩⟩
theorem oi_str {z : Str} {c : Nat} (hl : z.length ≤ 100000) (h : atI z.cps.toList i = some c) : ∃ r, IxR X r ∧ RD X.K r (.str z) (.int i) M (.str ⟨#[c]⟩) M := ⟨_, ix_str, fun F S H x y Q ok rx ry res =>
  ⟨z, i, c, rx.strE, ry.intE, Nat.le_trans hl (by decide), h, res.scal ok rfl⟩⟩
theorem atI_of {α : Type} {xs : List α} {n : Nat} {v : α} (h : xs[n]? = some v) (e : i = (n : Int)) : atI xs i = some v := by subst e; exact atI_nat h
/-! ### slices -/
variable {lo hi : Option Expr} {l u : Option Int} {p2 : Pos}
def cutD (ds : List D) (lo hi : Option Int) : List D := (ds.drop (HT.sIx ds.length 0 lo)).take (HT.sIx ds.length ds.length hi - HT.sIx ds.length 0 lo)
theorem RepL.cut {K : PySem.W.Frag} {S : Hp} {vs : List V} {ds : List D} (h : RepL K S vs ds) (l u : Option Int) : RepL K S (cutV vs l u) (cutD ds l u) := by
  unfold cutV cutD
  rw [h.len]
  exact (h.drop _).take _
theorem en_sl (ha : EV X Γ M a ga M1) (hl : EO X Γ M1 lo l M2) (hu : EO X Γ M2 hi u M3) (hg : LstOf M3 ga ds) : EN X Γ M (.Subscript a (.Slice lo hi none p2) pos) (cutD ds l u) M3 := fun F =>
  (pe_slice sl_list (ha F) (hl F) (hu F)).imp fun σ H Q ⟨S, sl, ok, res⟩ => ⟨S, sl, ok, fun x S1 H1 l1 ok1 rx => ⟨S1, sl.mono l1, ok1, fun S2 H2 l2 ok2 => ⟨S2, sl.mono (l1.trans l2), ok2, fun S3 H3 l3 ok3 => by
    obtain ⟨a, xs, e1, e2, e3⟩ := hg.get ok3 (rx.mono (l2.trans l3))
    exact ⟨a, xs, e1, e2, fun p hp => en_fresh ok3 (fun p xs S' H' l => res p xs S' H' (((l1.trans l2).trans l3).trans l)) p _ hp (e3.cut l u)⟩⟩⟩⟩
theorem ev_slT (ha : EV X Γ M a ga M1) (hl : EO X Γ M1 lo l M2) (hu : EO X Γ M2 hi u M3) (hg : ga = .tup ds) : EV X Γ M (.Subscript a (.Slice lo hi none p2) pos) (.tup (cutD ds l u)) M3 := fun F => by
  subst hg
  exact (pe_slice sl_tupA (ha F) (hl F) (hu F)).imp fun σ H Q ⟨S, sl, ok, res⟩ => ⟨S, sl, ok, fun x S1 H1 l1 ok1 rx => ⟨S1, sl.mono l1, ok1, fun S2 H2 l2 ok2 => ⟨S2, sl.mono (l1.trans l2), ok2, fun S3 H3 l3 ok3 => by
    obtain ⟨a, xs, e1, e2, e3⟩ := (show TupOf (.tup ds) ds from .inl rfl).get ok3 (rx.mono (l2.trans l3))
    refine ⟨a, xs, e1, e2, fun hw => ?_, fun _ p hp => (res.up ((l1.trans l2).trans l3)).newT ok3 (e3.cut l u) hp⟩
    rw [← e1]
    have : cutD ds l u = ds := by
      unfold cutD
      rw [← e3.len, hw.1, hw.2, e3.len, List.drop_zero, Nat.sub_zero, List.take_length]
    rw [this] at res
    exact res x S3 H3 ((l1.trans l2).trans l3) ok3 (rx.mono (l2.trans l3))⟩⟩⟩
theorem en_rev {k : Nat} {p1 p2 p3 : Pos} (ha : EV X Γ M a ga M1) (hg : LstOf M1 ga ds) : EN X Γ M (.Subscript a (.Slice none none (some (.UnaryOp .USub (.Constant (.int 1) k p1) p2)) p3) pos) ds.reverse M1 := fun F =>
  (pe_revL (ha F)).imp fun σ H Q ⟨S, sl, ok, res⟩ => ⟨S, sl, ok, fun x S1 H1 l1 ok1 rx => by
    obtain ⟨a, xs, e1, e2, e3⟩ := hg.get ok1 rx
    exact ⟨a, xs, e1, e2, fun p hp => en_fresh ok1 (fun p xs S' H' l => res p xs S' H' (l1.trans l)) p _ hp e3.rev⟩⟩
end
end Sy

set_option Elab.async false
set_option linter.all false
set_option maxRecDepth 100000
set_option maxHeartbeats 2000000
/-! Sy7: built-in functions, methods of lists, stores -/
namespace Sy
open PySem PySem.Spec PyProof.Rows L2
/-- a call of a known value: from the arguments in the state M a value for g in the state M' -/
def RC (K : PySem.W.Frag) (r : List V → Hp → VK → Prop) (gs : List D) (M : MS) (g : D) (M' : MS) : Prop := ∀ F S H xs Q, Ok K F S M H → RepL K S xs gs → Res K F S Q g M' → r xs H Q
def RCN (K : PySem.W.Frag) (r : List V → Hp → VK → Prop) (gs : List D) (M : MS) (ds : List D) : Prop := ∀ F S H xs Q, Ok K F S M H → RepL K S xs gs → (∀ p ys, H p = none → RepL K S ys ds → Q (.ref p) (upd H p (.lst ys))) → r xs H Q
def CaD (X : Cx) (f : Value) (gs : List D) (M : MS) (g : D) (M' : MS) : Prop := ∃ r, CallR X f r ∧ RC X.K r gs M g M'
def CaN (X : Cx) (f : Value) (gs : List D) (M : MS) (ds : List D) : Prop := ∃ r, CallR X f r ∧ RCN X.K r gs M ds
section
variable {X : Cx} {Γ : Gam} {M M' M1 M2 M3 : MS} {e a b c : Expr} {g ga gb gc : D} {ds gs : List D} {pos p : Pos} {i j : Int} {es : List Expr} {x : Str} {idn T : String}
theorem ev_callB (ha : EA X Γ M (e :: es) gs M1) (hc : CaD X (.builtin idn) gs M1 g M2) (hv : bootBuiltins x = some (.builtin idn)) (hm : X.mg x = none) (hg : Gl X x) (hn : x ≠ "__name__") (hdb : (x == ("__debug__" : Str)) = false)
    (he : starEach (e :: es) X.env = (false, eval e X.env) :: starEach es X.env) (hpl : (backTo pos (starEach es X.env)).any (·.1) = false) : EV X Γ M (.Call (.Name x p) (e :: es) [] pos) g M2 := fun F => by
  obtain ⟨r, h1, h2⟩ := hc
  exact (pe_callB h1 hg hm hv (ha F) hn hdb he hpl).imp fun σ H Q ⟨S, sl, ok, res⟩ => ⟨S, sl, ok, fun vs S1 H1 l1 ok1 r1 => h2 F S1 H1 vs Q ok1 r1 (res.up l1)⟩
theorem ev_callT (ha : EA X Γ M (e :: es) gs M1) (hc : CaD X (.type T) gs M1 g M2) (hv : bootBuiltins x = some (.type T)) (hm : X.mg x = none) (hg : Gl X x) (hn : x ≠ "__name__") (hdb : (x == ("__debug__" : Str)) = false)
    (he : starEach (e :: es) X.env = (false, eval e X.env) :: starEach es X.env) (hpl : (backTo pos (starEach es X.env)).any (·.1) = false) : EV X Γ M (.Call (.Name x p) (e :: es) [] pos) g M2 := fun F => by
  obtain ⟨r, h1, h2⟩ := hc
  exact (pe_callTy h1 hg hm hv (ha F) hn hdb he hpl).imp fun σ H Q ⟨S, sl, ok, res⟩ => ⟨S, sl, ok, fun vs S1 H1 l1 ok1 r1 => h2 F S1 H1 vs Q ok1 r1 (res.up l1)⟩
theorem en_callB (ha : EA X Γ M (e :: es) gs M1) (hc : CaN X (.builtin idn) gs M1 ds) (hv : bootBuiltins x = some (.builtin idn)) (hm : X.mg x = none) (hg : Gl X x) (hn : x ≠ "__name__") (hdb : (x == ("__debug__" : Str)) = false)
    (he : starEach (e :: es) X.env = (false, eval e X.env) :: starEach es X.env) (hpl : (backTo pos (starEach es X.env)).any (·.1) = false) : EN X Γ M (.Call (.Name x p) (e :: es) [] pos) ds M1 := fun F => by
  obtain ⟨r, h1, h2⟩ := hc
  exact (pe_callB h1 hg hm hv (ha F) hn hdb he hpl).imp fun σ H Q ⟨S, sl, ok, res⟩ => ⟨S, sl, ok, fun vs S1 H1 l1 ok1 r1 => h2 F S1 H1 vs Q ok1 r1 (en_fresh ok1 fun p xs S' H' l => res p xs S' H' (l1.trans l))⟩
theorem en_callT (ha : EA X Γ M (e :: es) gs M1) (hc : CaN X (.type T) gs M1 ds) (hv : bootBuiltins x = some (.type T)) (hm : X.mg x = none) (hg : Gl X x) (hn : x ≠ "__name__") (hdb : (x == ("__debug__" : Str)) = false)
    (he : starEach (e :: es) X.env = (false, eval e X.env) :: starEach es X.env) (hpl : (backTo pos (starEach es X.env)).any (·.1) = false) : EN X Γ M (.Call (.Name x p) (e :: es) [] pos) ds M1 := fun F => by
  obtain ⟨r, h1, h2⟩ := hc
  exact (pe_callTy h1 hg hm hv (ha F) hn hdb he hpl).imp fun σ H Q ⟨S, sl, ok, res⟩ => ⟨S, sl, ok, fun vs S1 H1 l1 ok1 r1 => h2 F S1 H1 vs Q ok1 r1 (en_fresh ok1 fun p xs S' H' l => res p xs S' H' (l1.trans l))⟩
theorem repL1 {K : PySem.W.Frag} {S : Hp} {xs : List V} (h : RepL K S xs [g]) : ∃ v, xs = [v] ∧ Rep K S v g := by
  cases h with
  | cons a b => cases b; exact ⟨_, rfl, a⟩
theorem repL2 {K : PySem.W.Frag} {S : Hp} {xs : List V} (h : RepL K S xs [ga, gb]) : ∃ v w, xs = [v, w] ∧ Rep K S v ga ∧ Rep K S w gb := by
  cases h with
  | cons a b => cases b with | cons c d => cases d; exact ⟨_, _, rfl, a, c⟩
/-! ### len, abs, int, min, max, sum, all, any -/
theorem cd_len (hs : SeqOf M g ds) : CaD X (.builtin "len") [g] M (.int ds.length) M := ⟨_, call_len_seq, fun F S H xs Q ok r res => by
  obtain ⟨v, e, r1⟩ := repL1 r
  subst e
  rcases hs with hs | hs
  · obtain ⟨a, ys, e1, e2, e3⟩ := hs.get ok r1
    exact ⟨a, ys, by rw [e1], .inl e2, by rw [e3.len]; exact res.scal ok rfl⟩
  · obtain ⟨a, ys, e1, e2, e3⟩ := hs.get ok r1
    exact ⟨a, ys, by rw [e1], .inr e2, by rw [e3.len]; exact res.scal ok rfl⟩⟩
theorem cd_lenS {z : Str} (hz : z.length ≤ 100000) : CaD X (.builtin "len") [.str z] M (.int z.length) M := ⟨_, call_len_str, fun F S H xs Q ok r res => by
  obtain ⟨v, e, r1⟩ := repL1 r
  subst e
  exact ⟨z, by rw [r1.strE], Nat.le_trans hz (by decide), res.scal ok rfl⟩⟩
theorem cd_abs : CaD X (.builtin "abs") [.int i] M (.int (i.natAbs : Int)) M := ⟨_, call_abs, fun F S H xs Q ok r res => by
  obtain ⟨v, e, r1⟩ := repL1 r
  subst e
  refine ⟨i, by rw [r1.intE], ?_⟩
  have : (if i < 0 then -i else i) = (i.natAbs : Int) := by split <;> omega
  rw [this]
  exact res.scal ok rfl⟩
theorem cd_int : CaD X (.type "int") [.int i] M (.int i) M := ⟨_, call_int1, fun F S H xs Q ok r res => by
  obtain ⟨v, e, r1⟩ := repL1 r
  subst e
  exact .inl ⟨i, by rw [r1.intE], res.scal ok rfl⟩⟩
theorem cd_intB {t : Bool} : CaD X (.type "int") [.bl t] M (.int (if t then 1 else 0)) M := ⟨_, call_int1, fun F S H xs Q ok r res => by
  obtain ⟨v, e, r1⟩ := repL1 r
  subst e
  exact .inr ⟨t, by rw [r1.blE], res.scal ok rfl⟩⟩
theorem cd_strI (h : i.natAbs.log2 < 1920) : CaD X (.type "str") [.int i] M (.str (toString i)) M := ⟨_, call_str_int, fun F S H xs Q ok r res => by
  obtain ⟨v, e, r1⟩ := repL1 r
  subst e
  exact ⟨i, by rw [r1.intE], h, res.scal ok rfl⟩⟩
theorem cd_max2 (hc : X.calm = true) : CaD X (.builtin "max") [.int i, .int j] M (.int (max i j)) M := ⟨_, call_max2 hc, fun F S H xs Q ok r res => by
  obtain ⟨v, w, e, r1, r2⟩ := repL2 r
  subst e
  refine ⟨i, j, by rw [r1.intE, r2.intE], ?_⟩
  have : (if j > i then j else i) = max i j := by split <;> omega
  rw [this]
  exact res.scal ok rfl⟩
theorem cd_min2 (hc : X.calm = true) : CaD X (.builtin "min") [.int i, .int j] M (.int (min i j)) M := ⟨_, call_min2 hc, fun F S H xs Q ok r res => by
  obtain ⟨v, w, e, r1, r2⟩ := repL2 r
  subst e
  refine ⟨i, j, by rw [r1.intE, r2.intE], ?_⟩
  have : (if j < i then j else i) = min i j := by split <;> omega
  rw [this]
  exact res.scal ok rfl⟩
theorem cd_sum {ns : List Int} (hc : X.calm = true) (hl : LstOf M g (ns.map D.int)) : CaD X (.builtin "sum") [g] M (.int ns.sum) M := ⟨_, cr_sum hc, fun F S H xs Q ok r res => by
  obtain ⟨v, e, r1⟩ := repL1 r
  subst e
  obtain ⟨a, ys, e1, e2, e3⟩ := hl.get ok r1
  have := e3.intsE
  subst this
  exact ⟨a, ns, by rw [e1], e2, res.scal ok rfl⟩⟩
theorem cd_maxL {ns : List Int} {m : Int} (hc : X.calm = true) (hl : LstOf M g (ns.map D.int)) (hm : m ∈ ns) (hx : ∀ y ∈ ns, y ≤ m) : CaD X (.builtin "max") [g] M (.int m) M := ⟨_, cr_max hc, fun F S H xs Q ok r res => by
  obtain ⟨v, e, r1⟩ := repL1 r
  subst e
  obtain ⟨a, ys, e1, e2, e3⟩ := hl.get ok r1
  have := e3.intsE
  subst this
  refine ⟨a, ns, by rw [e1], e2, List.length_pos_of_mem hm, fun k hk hkx => ?_⟩
  have : k = m := Int.le_antisymm (hx k hk) (hkx m hm)
  rw [this]
  exact res.scal ok rfl⟩
theorem cd_minL {ns : List Int} {m : Int} (hc : X.calm = true) (hl : LstOf M g (ns.map D.int)) (hm : m ∈ ns) (hx : ∀ y ∈ ns, m ≤ y) : CaD X (.builtin "min") [g] M (.int m) M := ⟨_, cr_min hc, fun F S H xs Q ok r res => by
  obtain ⟨v, e, r1⟩ := repL1 r
  subst e
  obtain ⟨a, ys, e1, e2, e3⟩ := hl.get ok r1
  have := e3.intsE
  subst this
  refine ⟨a, ns, by rw [e1], e2, List.length_pos_of_mem hm, fun k hk hkx => ?_⟩
  have : k = m := Int.le_antisymm (hkx m hm) (hx k hk)
  rw [this]
  exact res.scal ok rfl⟩
theorem cd_all {bs : List Bool} (hc : X.calm = true) (hl : LstOf M g (bs.map D.bl)) : CaD X (.builtin "all") [g] M (.bl (bs.all id)) M := ⟨_, cr_all hc, fun F S H xs Q ok r res => by
  obtain ⟨v, e, r1⟩ := repL1 r
  subst e
  obtain ⟨a, ys, e1, e2, e3⟩ := hl.get ok r1
  have := e3.blsE
  subst this
  exact ⟨a, bs, by rw [e1], e2, res.scal ok rfl⟩⟩
theorem cd_any {bs : List Bool} (hc : X.calm = true) (hl : LstOf M g (bs.map D.bl)) : CaD X (.builtin "any") [g] M (.bl (bs.any id)) M := ⟨_, cr_any hc, fun F S H xs Q ok r res => by
  obtain ⟨v, e, r1⟩ := repL1 r
  subst e
  obtain ⟨a, ys, e1, e2, e3⟩ := hl.get ok r1
  have := e3.blsE
  subst this
  exact ⟨a, bs, by rw [e1], e2, res.scal ok rfl⟩⟩
/-! ### list(x), tuple(x), sorted(x) -/
theorem cn_list (hs : SeqOf M g ds) : CaN X (.type "list") [g] M ds := ⟨_, call_list_of, fun F S H xs Q ok r res => by
  obtain ⟨v, e, r1⟩ := repL1 r
  subst e
  rcases hs with hs | hs
  · obtain ⟨a, ys, e1, e2, e3⟩ := hs.get ok r1
    exact ⟨a, ys, by rw [e1], .inl e2, fun l hl => res l ys hl e3⟩
  · obtain ⟨a, ys, e1, e2, e3⟩ := hs.get ok r1
    exact ⟨a, ys, by rw [e1], .inr e2, fun l hl => res l ys hl e3⟩⟩
theorem cd_tupleL (hs : LstOf M g ds) : CaD X (.type "tuple") [g] M (.tup ds) M := ⟨_, call_tuple_of, fun F S H xs Q ok r res => by
  obtain ⟨v, e, r1⟩ := repL1 r
  subst e
  obtain ⟨a, ys, e1, e2, e3⟩ := hs.get ok r1
  exact ⟨a, ys, by rw [e1], .inl ⟨e2, fun l hl => res.newT ok e3 hl⟩⟩⟩
theorem cd_tupleT : CaD X (.type "tuple") [.tup ds] M (.tup ds) M := ⟨_, call_tuple_of, fun F S H xs Q ok r res => by
  obtain ⟨v, e, r1⟩ := repL1 r
  subst e
  obtain ⟨a, ys, e1, e2, e3⟩ := (show TupOf (.tup ds) ds from .inl rfl).get ok r1
  exact ⟨a, ys, by rw [e1], .inr ⟨e2, by rw [← e1]; exact res.now ok r1⟩⟩⟩
theorem cn_sorted {ns ms : List Int} (hl : LstOf M g (ns.map D.int)) (hp : ms.Perm ns) (hs : ms.Pairwise (· ≤ ·)) : CaN X (.builtin "sorted") [g] M (ms.map D.int) := ⟨_, cr_sortedI, fun F S H xs Q ok r res => by
  obtain ⟨v, e, r1⟩ := repL1 r
  subst e
  obtain ⟨a, ys, e1, e2, e3⟩ := hl.get ok r1
  have := e3.intsE
  subst this
  refine ⟨a, ns, by rw [e1], e2, fun ns' p hp' hs' hpn => ?_⟩
  have : ns' = ms := List.Perm.eq_of_pairwise (fun a b _ _ h1 h2 => Int.le_antisymm h1 h2) hs' hs (hp'.trans hp.symm)
  subst this
  exact res p _ hpn (RepL.ints _)⟩
/-! ### isinstance -/
def D.ty : D → Option String
  | .non => some "NoneType" | .bl _ => some "bool" | .int _ => some "int" | .str _ => some "str"
  | .lst _ => some "list" | .ro _ => some "list" | .tup _ => some "tuple" | .rt _ => some "tuple"
  | _ => none
theorem sqL_ty {K : PySem.W.Frag} {H : Hp} {a : Addr} {xs : List V} (h : SqL K H a xs) : TyX K H (.ref a) (.type "list") := by
  rcases h with (h | ⟨o, h⟩) | ⟨o, its, n, h, hc, _⟩
  · exact .base (.lst h)
  · exact .base (.frz h)
  · exact .kList h hc
theorem sqT_ty {K : PySem.W.Frag} {H : Hp} {a : Addr} {xs : List V} (h : SqT K H a xs) : TyX K H (.ref a) (.type "tuple") := by
  rcases h with (h | ⟨o, h⟩) | ⟨o, its, n, h, hc, _⟩
  · exact .base (.tup h)
  · exact .fTuple h
  · exact .kTuple h hc
/-- a value's type; a list that changes -/
def TyD (M : MS) (g : D) (T : String) : Prop := g.ty = some T ∨ ∃ a ds, g = .raw (.ref a) ∧ M a = some (.lst ds) ∧ T = "list"
theorem TyD.get {K : PySem.W.Frag} {F S H : Hp} {v : V} (h : TyD M g T) (ok : Ok K F S M H) (r : Rep K S v g) : TyX K H v (.type T) := by
  rcases h with h | ⟨a, ds, e1, e2, e3⟩
  · cases r with
    | non => cases h; exact .base .non
    | bl b => cases h; exact .base (.bl b)
    | int i => cases h; exact .base (.int i)
    | str x => cases h; exact .base (.str x)
    | lst h1 h2 => cases h; exact sqL_ty (SqL.of (ok.s _ _ h1))
    | tup h1 h2 => cases h; exact sqT_ty (SqT.of (ok.s _ _ h1))
    | ro h1 h2 => cases h; exact sqL_ty (sqL_le ok.s h1)
    | rt h1 h2 => cases h; exact sqT_ty (sqT_le ok.s h1)
    | obj _ _ _ => cases h
    | raw _ => cases h
  · subst e1; subst e3
    obtain ⟨xs, h1, h2⟩ := (ok.m a _ e2).1
    rw [r.rawE]
    exact sqL_ty (SqL.of h1)
theorem cd_isi {n : String} {t : Bool} (ht : TyD M g T) (hk : kitB T n = some t) : CaD X (.builtin "isinstance") [g, .raw (.ty n)] M (.bl t) M := ⟨_, call_isi, fun F S H xs Q ok r res => by
  obtain ⟨v, w, e, r1, r2⟩ := repL2 r
  subst e
  exact ⟨v, w, .type T, .type n, t, rfl, by rw [r2.rawE]; exact .ty n, ht.get ok r1, kit_ty hk, res.scal ok rfl⟩⟩
theorem cd_isi2 {n m : String} {t u : Bool} (ht : TyD M g T) (hk : kitB T n = some t) (hk2 : kitB T m = some u) : CaD X (.builtin "isinstance") [g, .tup [.raw (.ty n), .raw (.ty m)]] M (.bl (t || u)) M := ⟨_, call_isiT, fun F S H xs Q ok r res => by
  obtain ⟨v, w, e, r1, r2⟩ := repL2 r
  subst e
  cases r2 with
  | @tup a ys _ h1 h2 =>
    obtain ⟨y1, y2, e2, q1, q2⟩ := repL2 h2
    subst e2
    refine ⟨v, a, _, .type T, [.type n, .type m], t || u, rfl, ok.s _ _ h1, .cons (by rw [q1.rawE]; exact .ty n) (.cons (by rw [q2.rawE]; exact .ty m) .nil), ht.get ok r1, ?_, res.scal ok rfl⟩
    refine kitAny_cons (kit_ty hk) (fun ht => ?_) fun ht => by rw [ht]; rfl
    subst ht
    refine kitAny_cons (kit_ty hk2) (fun hu => ?_) fun hu => by rw [hu]; rfl
    subst hu
    rfl⟩
/-- of an own class -/
structure InC (K : PySem.W.Frag) (C : Addr) : Prop where
  cl : Cls K C
  ha : PySem.W.findIn K (.ref C) "__class__" = some (some (.builtin "object.__class__"))
  hn : PySem.W.specialIn K (.builtin "object.__class__") "__get__" = some (some (.builtin "getset_descriptor.__get__"))
  htk : PySem.W.takesIn K (.builtin "object.__class__") = some true
  hm : PySem.W.mroIn K C (.type "object") = some true
  me : PySem.W.kitOne K (.ref C) (.ref C) = some true
theorem cd_isiO {C : Addr} {ns : List Str} (c : InC X.K C) (hi : InsOf M g C ns ds) : CaD X (.builtin "isinstance") [g, .raw (.ref C)] M (.bl true) M := ⟨_, call_isi, fun F S H xs Q ok r res => by
  obtain ⟨v, w, e, r1, r2⟩ := repL2 r
  subst e
  obtain ⟨a, dx, fs, e1, e2, _⟩ := hi.get ok r1
  exact ⟨v, w, .ref C, .ref C, true, rfl, by rw [r2.rawE]; exact .own C, by rw [e1]; exact .base (.ins e2 c.cl c.ha c.hn c.htk c.hm), c.me, res.scal ok rfl⟩⟩
/-! ### range as a value -/
theorem rgV_ints (a b : Int) : rgV a b = ((List.range (b - a).toNat).map fun k : Nat => a + (k : Int)).map V.int := by
  unfold rgV
  first | rfl | (simp [List.map_map]; done) | (rw [List.map_map]; rfl)
def rgI (a b : Int) : List Int := (List.range (b - a).toNat).map fun k : Nat => a + (k : Int)
theorem mem_rgI {a b i : Int} : i ∈ rgI a b ↔ a ≤ i ∧ i < b := by
  unfold rgI
  rw [List.mem_map]
  constructor
  · rintro ⟨k, hk, rfl⟩
    have := List.mem_range.mp hk
    omega
  · rintro ⟨h1, h2⟩
    exact ⟨(i - a).toNat, List.mem_range.mpr (by omega), by omega⟩
theorem len_rgI (a b : Int) : (rgI a b).length = (b - a).toNat := by unfold rgI; rw [List.length_map, List.length_range]
theorem get_rgI {a b : Int} {k : Nat} (h : k < (b - a).toNat) : (rgI a b)[k]? = some (a + (k : Int)) := by
  unfold rgI
  rw [List.getElem?_map, List.getElem?_range h]
  rfl
variable {p1 p2 : Pos}
theorem en_listRg1 {n : Int} (ha : EV X Γ M a (.int n) M1) (hb : -1000 ≤ n ∧ n ≤ 100000) (hc : X.calm = true) (hm : X.mg "list" = none) (hm2 : X.mg "range" = none) (hg : Gl X "list") (hg2 : Gl X "range")
    (na : starEach [a] X.env = (false, eval a X.env) :: starEach [] X.env) (nb : starEach [Expr.Call (.Name "range" p1) [a] [] p2] X.env = (false, eval (.Call (.Name "range" p1) [a] [] p2) X.env) :: starEach [] X.env) :
    EN X Γ M (.Call (.Name "list" p) [.Call (.Name "range" p1) [a] [] p2] [] pos) ((rgI 0 n).map D.int) M1 := fun F => (pe_listRg hc hg hm (prg_1 hg2 hm2 (ha F) na) nb).imp fun σ H Q ⟨S, sl, ok, res⟩ => ⟨S, sl, ok, fun v S1 H1 l1 ok1 r1 => by
      refine ⟨n, r1.intE, ⟨by omega, by omega, by omega, by omega, by omega⟩, fun q hq => ?_⟩
      rw [rgV_ints]
      exact en_fresh ok1 (fun p xs S' H' l => res p xs S' H' (l1.trans l)) q _ hq (RepL.ints _)⟩
theorem en_listRg2 {m n : Int} (ha : EV X Γ M a (.int m) M1) (hb : EV X Γ M1 b (.int n) M2) (h1 : -1000 ≤ m ∧ m ≤ 100000) (h2 : -1000 ≤ n ∧ n ≤ 100000) (hc : X.calm = true) (hm : X.mg "list" = none) (hm2 : X.mg "range" = none) (hg : Gl X "list") (hg2 : Gl X "range")
    (na : starEach [a, b] X.env = (false, eval a X.env) :: starEach [b] X.env) (nb : starEach [b] X.env = (false, eval b X.env) :: starEach [] X.env) (hpl : (backTo p2 (starEach [b] X.env)).any (·.1) = false)
    (nc : starEach [Expr.Call (.Name "range" p1) [a, b] [] p2] X.env = (false, eval (.Call (.Name "range" p1) [a, b] [] p2) X.env) :: starEach [] X.env) :
    EN X Γ M (.Call (.Name "list" p) [.Call (.Name "range" p1) [a, b] [] p2] [] pos) ((rgI m n).map D.int) M2 := fun F => (pe_listRg hc hg hm (prg_2 hg2 hm2 (ha F) (hb F) na nb hpl) nc).imp fun σ H Q ⟨S, sl, ok, res⟩ => ⟨S, sl, ok, fun v S1 H1 l1 ok1 r1 => ⟨S1, sl.mono l1, ok1, fun w S2 H2 l2 ok2 r2 => by
      refine ⟨m, n, r1.intE, r2.intE, ⟨by omega, by omega, by omega, by omega, by omega⟩, fun q hq => ?_⟩
      rw [rgV_ints]
      exact en_fresh ok2 (fun p xs S' H' l => res p xs S' H' ((l1.trans l2).trans l)) q _ hq (RepL.ints _)⟩⟩
theorem ev_tupRg1 {n : Int} (ha : EV X Γ M a (.int n) M1) (hb : -1000 ≤ n ∧ n ≤ 100000) (hc : X.calm = true) (hm : X.mg "tuple" = none) (hm2 : X.mg "range" = none) (hg : Gl X "tuple") (hg2 : Gl X "range")
    (na : starEach [a] X.env = (false, eval a X.env) :: starEach [] X.env) (nb : starEach [Expr.Call (.Name "range" p1) [a] [] p2] X.env = (false, eval (.Call (.Name "range" p1) [a] [] p2) X.env) :: starEach [] X.env) :
    EV X Γ M (.Call (.Name "tuple" p) [.Call (.Name "range" p1) [a] [] p2] [] pos) (.tup ((rgI 0 n).map D.int)) M1 := fun F => (pe_tupRg hc hg hm (prg_1 hg2 hm2 (ha F) na) nb).imp fun σ H Q ⟨S, sl, ok, res⟩ => ⟨S, sl, ok, fun v S1 H1 l1 ok1 r1 => by
      refine ⟨n, r1.intE, ⟨by omega, by omega, by omega, by omega, by omega⟩, fun q hq => ?_⟩
      rw [rgV_ints]
      exact (res.up l1).newT ok1 (RepL.ints _) hq⟩
theorem ev_tupRg2 {m n : Int} (ha : EV X Γ M a (.int m) M1) (hb : EV X Γ M1 b (.int n) M2) (h1 : -1000 ≤ m ∧ m ≤ 100000) (h2 : -1000 ≤ n ∧ n ≤ 100000) (hc : X.calm = true) (hm : X.mg "tuple" = none) (hm2 : X.mg "range" = none) (hg : Gl X "tuple") (hg2 : Gl X "range")
    (na : starEach [a, b] X.env = (false, eval a X.env) :: starEach [b] X.env) (nb : starEach [b] X.env = (false, eval b X.env) :: starEach [] X.env) (hpl : (backTo p2 (starEach [b] X.env)).any (·.1) = false)
    (nc : starEach [Expr.Call (.Name "range" p1) [a, b] [] p2] X.env = (false, eval (.Call (.Name "range" p1) [a, b] [] p2) X.env) :: starEach [] X.env) :
    EV X Γ M (.Call (.Name "tuple" p) [.Call (.Name "range" p1) [a, b] [] p2] [] pos) (.tup ((rgI m n).map D.int)) M2 := fun F => (pe_tupRg hc hg hm (prg_2 hg2 hm2 (ha F) (hb F) na nb hpl) nc).imp fun σ H Q ⟨S, sl, ok, res⟩ => ⟨S, sl, ok, fun v S1 H1 l1 ok1 r1 => ⟨S1, sl.mono l1, ok1, fun w S2 H2 l2 ok2 r2 => by
      refine ⟨m, n, r1.intE, r2.intE, ⟨by omega, by omega, by omega, by omega, by omega⟩, fun q hq => ?_⟩
      rw [rgV_ints]
      exact (res.up (l1.trans l2)).newT ok2 (RepL.ints _) hq⟩⟩
/-! ### methods of lists that change -/
variable {o : Expr} {apos cpos : Pos} {q : Addr} {P : Post}
abbrev FewB (X : Cx) (e : Expr) (es : List Expr) (cpos : Pos) : Prop := ((backTo cpos (starEach (e :: es) X.env)).all (fun x => !x.1) && (backToKw cpos (keywordEach [] X.env)).all (fun x => x.1.isSome)
      && decide ((e :: es).length + ([] : List Keyword).length + (if ([] : List Keyword).isEmpty then 0 else 1) < 30)) = true
theorem ev_append (ho : EV X Γ M o (.raw (.ref q)) M1) (ha : EV X Γ M1 e g M2) (h1 : ∃ es, M1 q = some (.lst es)) (hq : M2 q = some (.lst ds)) (hl : ds.length < 100000) (hbase : attributeBase o "append" X.env (eval o X.env) = eval o X.env)
    (hfew : FewB X e [] cpos) (hline : (apos.endLine == cpos.line) = true) (hs : starEach [e] X.env = (false, eval e X.env) :: starEach [] X.env) (hpl : (backTo cpos (starEach [] X.env)).any (·.1) = false) :
    EV X Γ M (.Call (.Attribute o "append" apos) [e] [] cpos) .non (updM M2 q (.lst (ds ++ [g]))) := fun F =>
  (pe_bm PySem.F.plainAttrs_list PySem.F.slot_list_append PySem.F.type_list_append mt_append (ho F) (pa_cons (ha F) pa_nil hs) hbase hfew hline hs hpl).imp fun σ H Q ⟨S, sl, ok, res⟩ => ⟨S, sl, ok, fun v S1 H1 l1 ok1 r1 => by
    rw [r1.rawE]
    obtain ⟨es, h1⟩ := h1
    obtain ⟨xs, k1, k2⟩ := (ok1.m q _ h1).1
    refine ⟨.inl ⟨rfl, xs, SqL.of k1⟩, S1, sl.mono l1, ok1, fun w S2 H2 l2 ok2 r2 => ?_⟩
    obtain ⟨ys, k3, k4⟩ := (ok2.m q _ hq).1
    exact ⟨q, ys, w, rfl, rfl, k3, Nat.lt_of_lt_of_le (by rw [k4.len]; exact hl) (by decide), res _ S2 _ (l1.trans l2) (ok2.chg hq ⟨_, upd_same, k4.app (.cons r2 .nil)⟩) .non⟩⟩
theorem ev_pop (ho : EV X Γ M o (.raw (.ref q)) M1) (hq : M1 q = some (.lst ds)) (hg : ds[ds.length - 1]? = some g) (hbase : attributeBase o "pop" X.env (eval o X.env) = eval o X.env) (hline : (apos.endLine == cpos.line) = true) :
    EV X Γ M (.Call (.Attribute o "pop" apos) [] [] cpos) g (updM M1 q (.lst ds.dropLast)) := fun F =>
  (pe_bm0 PySem.F.plainAttrs_list PySem.F.slot_list_pop PySem.F.type_list_pop mt_pop (ho F) hbase hline).imp fun σ H Q ⟨S, sl, ok, res⟩ => ⟨S, sl, ok, fun v S1 H1 l1 ok1 r1 => by
    rw [r1.rawE]
    obtain ⟨xs, k1, k2⟩ := (ok1.m q _ hq).1
    obtain ⟨w, k3, k4⟩ := k2.at_ hg
    refine ⟨.inl ⟨rfl, xs, SqL.of k1⟩, q, xs, w, rfl, rfl, k1, by rw [k2.len]; exact k3, res _ S1 _ l1 (ok1.chg hq ⟨_, upd_same, ?_⟩) k4⟩
    rw [List.dropLast_eq_take, List.dropLast_eq_take, k2.len]
    exact k2.take _⟩
theorem RepL.erase {K : PySem.W.Frag} {S : Hp} : ∀ {vs : List V} {ds : List D} (n : Nat), RepL K S vs ds → RepL K S (vs.eraseIdx n) (ds.eraseIdx n)
  | _, _, _, .nil => .nil
  | _, _, 0, .cons _ t => t
  | _, _, n + 1, .cons r t => .cons r (RepL.erase n t)
theorem ev_popAt {n : Nat} (ho : EV X Γ M o (.raw (.ref q)) M1) (ha : EV X Γ M1 e (.int (n : Int)) M2) (h1 : ∃ es, M1 q = some (.lst es)) (hq : M2 q = some (.lst ds)) (hg : ds[n]? = some g) (hl : ds.length < 100000) (hbase : attributeBase o "pop" X.env (eval o X.env) = eval o X.env)
    (hfew : FewB X e [] cpos) (hline : (apos.endLine == cpos.line) = true) (hs : starEach [e] X.env = (false, eval e X.env) :: starEach [] X.env) (hpl : (backTo cpos (starEach [] X.env)).any (·.1) = false) :
    EV X Γ M (.Call (.Attribute o "pop" apos) [e] [] cpos) g (updM M2 q (.lst (ds.eraseIdx n))) := fun F =>
  (pe_bm PySem.F.plainAttrs_list PySem.F.slot_list_pop PySem.F.type_list_pop mt_popAt (ho F) (pa_cons (ha F) pa_nil hs) hbase hfew hline hs hpl).imp fun σ H Q ⟨S, sl, ok, res⟩ => ⟨S, sl, ok, fun v S1 H1 l1 ok1 r1 => by
    rw [r1.rawE]
    obtain ⟨es, h1⟩ := h1
    obtain ⟨xs, k1, k2⟩ := (ok1.m q _ h1).1
    refine ⟨.inl ⟨rfl, xs, SqL.of k1⟩, S1, sl.mono l1, ok1, fun w S2 H2 l2 ok2 r2 => ?_⟩
    obtain ⟨ys, k3, k4⟩ := (ok2.m q _ hq).1
    obtain ⟨u, k5, k6⟩ := k4.at_ hg
    have hn : n < ds.length := (List.getElem?_eq_some_iff.mp hg).1
    exact ⟨q, ys, n, n, u, rfl, by rw [r2.intE], k3, by omega, by omega, by rw [seqIndex_of (by omega) (by rw [k4.len]; omega)]; rfl, k5, res _ S2 _ (l1.trans l2) (ok2.chg hq ⟨_, upd_same, k4.erase n⟩) k6⟩⟩
theorem ev_extend {es : List D} (ho : EV X Γ M o (.raw (.ref q)) M1) (ha : EV X Γ M1 e gb M2) (h1 : ∃ es, M1 q = some (.lst es)) (hq : M2 q = some (.lst ds)) (hb : LstT M2 gb es) (hl : ds.length + es.length ≤ 100000) (hbase : attributeBase o "extend" X.env (eval o X.env) = eval o X.env)
    (hfew : FewB X e [] cpos) (hline : (apos.endLine == cpos.line) = true) (hs : starEach [e] X.env = (false, eval e X.env) :: starEach [] X.env) (hpl : (backTo cpos (starEach [] X.env)).any (·.1) = false) :
    EV X Γ M (.Call (.Attribute o "extend" apos) [e] [] cpos) .non (updM M2 q (.lst (ds ++ es))) := fun F =>
  (pe_bm PySem.F.plainAttrs_list PySem.F.slot_list_extend PySem.F.type_list_extend mt_extend (ho F) (pa_cons (ha F) pa_nil hs) hbase hfew hline hs hpl).imp fun σ H Q ⟨S, sl, ok, res⟩ => ⟨S, sl, ok, fun v S1 H1 l1 ok1 r1 => by
    rw [r1.rawE]
    obtain ⟨es0, h1⟩ := h1
    obtain ⟨xs, k1, k2⟩ := (ok1.m q _ h1).1
    refine ⟨.inl ⟨rfl, xs, SqL.of k1⟩, S1, sl.mono l1, ok1, fun w S2 H2 l2 ok2 r2 => ?_⟩
    obtain ⟨ys, k3, k4⟩ := (ok2.m q _ hq).1
    obtain ⟨b, zs, e1, k5, k6⟩ := hb.get ok2 r2
    subst e1
    exact ⟨q, b, ys, zs, rfl, rfl, k3, k5, Nat.le_trans (by rw [k4.len, k6.len]; exact hl) (by decide), res _ S2 _ (l1.trans l2) (ok2.chg hq ⟨_, upd_same, k4.app k6⟩) .non⟩⟩
/-- xs[i] = v -/
theorem s1_setIx {n : Nat} {tp : Pos} (hv : EV X Γ M c g M1) (ho : EV X Γ M1 a (.raw (.ref q)) M2) (hi : EV X Γ M2 b (.int i) M3) (hq : M3 q = some (.lst ds)) (hn : ixN ds.length i = some n)
    (ha : ∀ v, assign (.Subscript a b tp) X.env v = (do
      let ov ← holding [v] (eval a X.env)
      let iv ← holding [v, ov] (eval b X.env)
      standAt tp
      holding [v, ov, iv] (setItem ov iv v)
      release [v, ov, iv] [])) (hs : swapsWithSole [.Subscript a b tp] c pos.line X.env = pure false) (hw : swappedStores [.Subscript a b tp] c X.env = pure none)
    (h1 : (assignEach [.Subscript a b tp] X.env).map (·.2) = [assign (.Subscript a b tp) X.env]) (h : P.nx Γ (updM M3 q (.lst (ds.set n g)))) : S1 X Γ M (.Assign [.Subscript a b tp] c pos) P := fun F =>
  (ps_asg (hv F) (pg_sub (ho F) (hi F) set_list ha) hs hw h1).imp fun E σ H ⟨S, sl, ok, fin⟩ => ⟨S, sl, ok, fun v S1 H1 l1 ok1 r1 => ⟨S1, sl.mono l1, ok1, fun w S2 H2 l2 ok2 r2 => ⟨S2, sl.mono (l1.trans l2), ok2, fun u S3 H3 l3 ok3 r3 => by
    rw [r2.rawE, r3.intE]
    obtain ⟨xs, k1, k2⟩ := (ok3.m q _ hq).1
    exact ⟨q, xs, i, n, rfl, rfl, k1, by rw [k2.len]; exact hn, fin.nx _ _ S3 _ _ h ((l1.trans l2).trans l3) (sl.mono ((l1.trans l2).trans l3)) (ok3.chg hq ⟨_, upd_same, RepL.set (r1.mono (l2.trans l3)) n k2⟩)⟩⟩⟩⟩
end
end Sy

set_option Elab.async false
set_option linter.all false
set_option maxRecDepth 100000
set_option maxHeartbeats 4000000
/-! Sy8: kinds of values, names of the module -/
namespace Sy
open PySem PySem.Spec PyProof.Rows L2
def D.kn (d : D) : Bool := d.ty.isSome
def D.isI : D → Bool
  | .int _ => true | .bl _ => true | _ => false
def D.isB : D → Bool
  | .bl _ => true | _ => false
def D.isS : D → Bool
  | .str _ => true | _ => false
def D.isTu : D → Bool
  | .tup _ => true | .rt _ => true | _ => false
def D.isLi : D → Bool
  | .lst _ => true | .ro _ => true | _ => false
section
variable {X : Cx} {Γ : Gam} {M M' M1 M2 M3 : MS} {e a b c : Expr} {g ga gb gc d : D} {ds gs : List D} {pos p : Pos} {i j : Int} {x : Str} {T : String}
theorem isT_of {n : String} {t : Bool} (hk : d.kn = true) (h : ∀ T, d.ty = some T → kitB T n = some t) : CaD X (.builtin "isinstance") [d, .raw (.ty n)] M (.bl t) M := by
  obtain ⟨T, hT⟩ := Option.isSome_iff_exists.mp hk
  exact cd_isi (.inl hT) (h T hT)
theorem cd_isInt (hk : d.kn = true) : CaD X (.builtin "isinstance") [d, .raw (.ty "int")] M (.bl d.isI) M := isT_of hk fun T h => by
  cases d <;> simp [D.ty] at h <;> subst h <;> simp only [D.isI] <;> decide +kernel
theorem cd_isBool (hk : d.kn = true) : CaD X (.builtin "isinstance") [d, .raw (.ty "bool")] M (.bl d.isB) M := isT_of hk fun T h => by
  cases d <;> simp [D.ty] at h <;> subst h <;> simp only [D.isB] <;> decide +kernel
theorem cd_isStr (hk : d.kn = true) : CaD X (.builtin "isinstance") [d, .raw (.ty "str")] M (.bl d.isS) M := isT_of hk fun T h => by
  cases d <;> simp [D.ty] at h <;> subst h <;> simp only [D.isS] <;> decide +kernel
theorem cd_isTup (hk : d.kn = true) : CaD X (.builtin "isinstance") [d, .raw (.ty "tuple")] M (.bl d.isTu) M := isT_of hk fun T h => by
  cases d <;> simp [D.ty] at h <;> subst h <;> simp only [D.isTu] <;> decide +kernel
theorem cd_isSeq (hk : d.kn = true) : CaD X (.builtin "isinstance") [d, .tup [.raw (.ty "list"), .raw (.ty "tuple")]] M (.bl (d.isLi || d.isTu)) M := by
  obtain ⟨T, hT⟩ := Option.isSome_iff_exists.mp hk
  refine cd_isi2 (.inl hT) ?_ ?_ <;> (cases d <;> simp [D.ty] at hT <;> subst hT <;> simp only [D.isLi, D.isTu] <;> decide +kernel)
/-- a built-in class as a value -/
theorem ev_ty (hv : bootBuiltins x = some (.type T)) (hm : X.mg x = none) (hg : Gl X x) (hn : x ≠ "__name__") (hd : (x == ("__debug__" : Str)) = false) : EV X Γ M (.Name x pos) (.raw (.ty T)) M := ev_bltn (v := .ty T) hg hm hv rfl rfl hn hd
/-- an own class, a def as a value -/
theorem ev_ref {C : Addr} (hm : X.mg x = some (.ref C)) (hg : Gl X x) (hd : (x == ("__debug__" : Str)) = false) : EV X Γ M (.Name x pos) (.raw (.ref C)) M := ev_glob (v := .ref C) hg ⟨_, hm, rfl⟩ rfl hd
/-- a number of the module -/
theorem ev_gint (hm : ∃ t, X.mg x = some (.int i t)) (hg : Gl X x) (hd : (x == ("__debug__" : Str)) = false) : EV X Γ M (.Name x pos) (.int i) M := by
  obtain ⟨t, h⟩ := hm
  exact ev_glob (v := .int i) hg ⟨_, h, t, rfl⟩ rfl hd
theorem ev_to (h : EV X Γ M e g M1) (h1 : g = ga) (h2 : M1 = M2) : EV X Γ M e ga M2 := by subst h1; subst h2; exact h
theorem et_to {t u : Bool} (h : ET X Γ M e t M1) (h1 : t = u) (h2 : M1 = M2) : ET X Γ M e u M2 := by subst h1; subst h2; exact h
theorem ew_to {t u : Bool} (h : EW X Γ M e t M1) (h1 : t = u) (h2 : M1 = M2) : EW X Γ M e u M2 := by subst h1; subst h2; exact h
/-- the place of a name -/
def ixOf (N : List Str) (x : Str) : Option Nat := N.findIdx? fun y => y == x
theorem ixOf_at {N : List Str} {x : Str} {i : Nat} (h : ixOf N x = some i) : N[i]? = some x := by
  unfold ixOf at h
  obtain ⟨h1, h2, _⟩ := List.findIdx?_eq_some_iff_getElem.mp h
  rw [List.getElem?_eq_getElem h1]
  exact congrArg some (by simpa using h2)
theorem ev_nm {i : Nat} (hN : ixOf X.N x = some i) (hg : Γ[i]? = some (some g)) (hv : Vis X.env.scope x) (hd : (x == ("__debug__" : Str)) = false) (hcd : (x == ("__classdict__" : Str)) = false) : EV X Γ M (.Name x pos) g M := ev_var i hg (ixOf_at hN) hv hd hcd
end
end Sy

set_option Elab.async false
set_option linter.all false
set_option maxRecDepth 100000
set_option maxHeartbeats 4000000
/-! Sy9: the built-in names, one by one -/
namespace Sy
open PySem PySem.Spec PyProof.Rows L2
section
variable {X : Cx} {Γ : Gam} {M M' M1 M2 M3 : MS} {e : Expr} {g : D} {ds gs : List D} {pos p : Pos} {es : List Expr}
theorem ev_isinstance (ha : EA X Γ M (e :: es) gs M1) (hc : CaD X (.builtin "isinstance") gs M1 g M2) (hm : X.mg "isinstance" = none) (hg : Gl X "isinstance") (he : starEach (e :: es) X.env = (false, eval e X.env) :: starEach es X.env) (hpl : (backTo pos (starEach es X.env)).any (·.1) = false) : EV X Γ M (.Call (.Name "isinstance" p) (e :: es) [] pos) g M2 := ev_callB ha hc boot_isinstance hm hg (by decide) (by decide) he hpl
theorem ev_len (ha : EA X Γ M (e :: es) gs M1) (hc : CaD X (.builtin "len") gs M1 g M2) (hm : X.mg "len" = none) (hg : Gl X "len") (he : starEach (e :: es) X.env = (false, eval e X.env) :: starEach es X.env) (hpl : (backTo pos (starEach es X.env)).any (·.1) = false) : EV X Γ M (.Call (.Name "len" p) (e :: es) [] pos) g M2 := ev_callB ha hc boot_len hm hg (by decide) (by decide) he hpl
theorem ev_abs (ha : EA X Γ M (e :: es) gs M1) (hc : CaD X (.builtin "abs") gs M1 g M2) (hm : X.mg "abs" = none) (hg : Gl X "abs") (he : starEach (e :: es) X.env = (false, eval e X.env) :: starEach es X.env) (hpl : (backTo pos (starEach es X.env)).any (·.1) = false) : EV X Γ M (.Call (.Name "abs" p) (e :: es) [] pos) g M2 := ev_callB ha hc boot_abs hm hg (by decide) (by decide) he hpl
theorem ev_min (ha : EA X Γ M (e :: es) gs M1) (hc : CaD X (.builtin "min") gs M1 g M2) (hm : X.mg "min" = none) (hg : Gl X "min") (he : starEach (e :: es) X.env = (false, eval e X.env) :: starEach es X.env) (hpl : (backTo pos (starEach es X.env)).any (·.1) = false) : EV X Γ M (.Call (.Name "min" p) (e :: es) [] pos) g M2 := ev_callB ha hc boot_min hm hg (by decide) (by decide) he hpl
theorem ev_max (ha : EA X Γ M (e :: es) gs M1) (hc : CaD X (.builtin "max") gs M1 g M2) (hm : X.mg "max" = none) (hg : Gl X "max") (he : starEach (e :: es) X.env = (false, eval e X.env) :: starEach es X.env) (hpl : (backTo pos (starEach es X.env)).any (·.1) = false) : EV X Γ M (.Call (.Name "max" p) (e :: es) [] pos) g M2 := ev_callB ha hc boot_max hm hg (by decide) (by decide) he hpl
theorem ev_sum (ha : EA X Γ M (e :: es) gs M1) (hc : CaD X (.builtin "sum") gs M1 g M2) (hm : X.mg "sum" = none) (hg : Gl X "sum") (he : starEach (e :: es) X.env = (false, eval e X.env) :: starEach es X.env) (hpl : (backTo pos (starEach es X.env)).any (·.1) = false) : EV X Γ M (.Call (.Name "sum" p) (e :: es) [] pos) g M2 := ev_callB ha hc boot_sum hm hg (by decide) (by decide) he hpl
theorem ev_all (ha : EA X Γ M (e :: es) gs M1) (hc : CaD X (.builtin "all") gs M1 g M2) (hm : X.mg "all" = none) (hg : Gl X "all") (he : starEach (e :: es) X.env = (false, eval e X.env) :: starEach es X.env) (hpl : (backTo pos (starEach es X.env)).any (·.1) = false) : EV X Γ M (.Call (.Name "all" p) (e :: es) [] pos) g M2 := ev_callB ha hc boot_all hm hg (by decide) (by decide) he hpl
theorem ev_any (ha : EA X Γ M (e :: es) gs M1) (hc : CaD X (.builtin "any") gs M1 g M2) (hm : X.mg "any" = none) (hg : Gl X "any") (he : starEach (e :: es) X.env = (false, eval e X.env) :: starEach es X.env) (hpl : (backTo pos (starEach es X.env)).any (·.1) = false) : EV X Γ M (.Call (.Name "any" p) (e :: es) [] pos) g M2 := ev_callB ha hc boot_any hm hg (by decide) (by decide) he hpl
theorem ev_sorted (ha : EA X Γ M (e :: es) gs M1) (hc : CaD X (.builtin "sorted") gs M1 g M2) (hm : X.mg "sorted" = none) (hg : Gl X "sorted") (he : starEach (e :: es) X.env = (false, eval e X.env) :: starEach es X.env) (hpl : (backTo pos (starEach es X.env)).any (·.1) = false) : EV X Γ M (.Call (.Name "sorted" p) (e :: es) [] pos) g M2 := ev_callB ha hc boot_sorted hm hg (by decide) (by decide) he hpl
theorem en_sorted (ha : EA X Γ M (e :: es) gs M1) (hc : CaN X (.builtin "sorted") gs M1 ds) (hm : X.mg "sorted" = none) (hg : Gl X "sorted") (he : starEach (e :: es) X.env = (false, eval e X.env) :: starEach es X.env) (hpl : (backTo pos (starEach es X.env)).any (·.1) = false) : EN X Γ M (.Call (.Name "sorted" p) (e :: es) [] pos) ds M1 := en_callB ha hc boot_sorted hm hg (by decide) (by decide) he hpl
theorem ev_Tint (ha : EA X Γ M (e :: es) gs M1) (hc : CaD X (.type "int") gs M1 g M2) (hm : X.mg "int" = none) (hg : Gl X "int") (he : starEach (e :: es) X.env = (false, eval e X.env) :: starEach es X.env) (hpl : (backTo pos (starEach es X.env)).any (·.1) = false) : EV X Γ M (.Call (.Name "int" p) (e :: es) [] pos) g M2 := ev_callT ha hc boot_int hm hg (by decide) (by decide) he hpl
theorem ev_Tstr (ha : EA X Γ M (e :: es) gs M1) (hc : CaD X (.type "str") gs M1 g M2) (hm : X.mg "str" = none) (hg : Gl X "str") (he : starEach (e :: es) X.env = (false, eval e X.env) :: starEach es X.env) (hpl : (backTo pos (starEach es X.env)).any (·.1) = false) : EV X Γ M (.Call (.Name "str" p) (e :: es) [] pos) g M2 := ev_callT ha hc boot_str hm hg (by decide) (by decide) he hpl
theorem ev_Ttuple (ha : EA X Γ M (e :: es) gs M1) (hc : CaD X (.type "tuple") gs M1 g M2) (hm : X.mg "tuple" = none) (hg : Gl X "tuple") (he : starEach (e :: es) X.env = (false, eval e X.env) :: starEach es X.env) (hpl : (backTo pos (starEach es X.env)).any (·.1) = false) : EV X Γ M (.Call (.Name "tuple" p) (e :: es) [] pos) g M2 := ev_callT ha hc boot_tuple hm hg (by decide) (by decide) he hpl
theorem en_Tlist (ha : EA X Γ M (e :: es) gs M1) (hc : CaN X (.type "list") gs M1 ds) (hm : X.mg "list" = none) (hg : Gl X "list") (he : starEach (e :: es) X.env = (false, eval e X.env) :: starEach es X.env) (hpl : (backTo pos (starEach es X.env)).any (·.1) = false) : EN X Γ M (.Call (.Name "list" p) (e :: es) [] pos) ds M1 := en_callT ha hc boot_list hm hg (by decide) (by decide) he hpl
theorem ev_tyint (hm : X.mg "int" = none) (hg : Gl X "int") : EV X Γ M (.Name "int" pos) (.raw (.ty "int")) M := ev_ty boot_int hm hg (by decide) (by decide)
theorem ev_tystr (hm : X.mg "str" = none) (hg : Gl X "str") : EV X Γ M (.Name "str" pos) (.raw (.ty "str")) M := ev_ty boot_str hm hg (by decide) (by decide)
theorem ev_tytuple (hm : X.mg "tuple" = none) (hg : Gl X "tuple") : EV X Γ M (.Name "tuple" pos) (.raw (.ty "tuple")) M := ev_ty boot_tuple hm hg (by decide) (by decide)
theorem ev_tylist (hm : X.mg "list" = none) (hg : Gl X "list") : EV X Γ M (.Name "list" pos) (.raw (.ty "list")) M := ev_ty boot_list hm hg (by decide) (by decide)
theorem ev_tybool (hm : X.mg "bool" = none) (hg : Gl X "bool") : EV X Γ M (.Name "bool" pos) (.raw (.ty "bool")) M := ev_ty boot_bool hm hg (by decide) (by decide)
end
end Sy

set_option Elab.async false
set_option linter.all false
set_option maxRecDepth 100000
set_option maxHeartbeats 4000000
/-! Sy10: new lists from a def, calls by keywords, enumerate of a tuple, texts walked, dicts -/
namespace Sy
open PySem PySem.Spec PyProof.Rows L2
/-! ### a def that gives a new list -/
abbrev RlN := List D → MS → List D → MS → Prop
def spN (K : PySem.W.Frag) (R : RlN) : Sp := fun vs H Q _ => ∃ S ds M g M', RepL K S vs ds ∧ Ok K (frOf S M H) S M H ∧ R ds M g M' ∧
  ∀ p xs S' H', Le S S' → Ok K (frOf S M H) S' M' H' → S' p = none → frOf S M H p = none → M' p = none → H' p = some (.lst xs) → RepL K S' xs g → Q (.ref p) H'
def owesN (gs : List D) (M' : MS) : Post where
  rn := fun d M2 => d = gs ∧ ∀ a o, M' a = some o → M2 a = some o
structure CalN (P : Program) (w : World) (K : PySem.W.Frag) (mg : Str → Option Value) (base : Heap) (k : Nat) (x : Str) (R : RlN) : Prop where
  ex : ∃ (f : Addr) (fd : FuncData) (ps : List Str), FnOk P w K mg base CX0 k f fd ps (spN K R) ∧ mg x = some (.ref f) ∧ PySem.W.keepIn K (.ref f) = true ∧ Binds K fd ps []
section
variable {P : Program} {w : World} {K : PySem.W.Frag} {mg : Str → Option Value} {base : Heap}
theorem fn_defN {x qual : Str} {params : Arguments} {body : List Stmt} {scope : Scope} {dvs : List V} {kws : List (Str × V)} {f : Addr} {fd : FuncData} {N ps : List Str} {k : Nat} {R : RlN} (F : FunD K x qual params body scope dvs kws f fd) (sc : FnScope N ps scope)
    (hl : ∀ ds M g M', R ds M g M' → ds.length = ps.length)
    (hb : ∀ (cdv : Value) (A : Around) (outer : List Env) (s : Shared) (H : Hp) (E : XK), Room k (A.deeper (envOfC qual scope s.heap.objs.size f cdv)) → ∀ ds M g M', R ds M g M' →
      SS (Bc P w K mg base N qual scope f cdv A outer s H E) (gam0 N ds) M body (owesN g M')) : FnOk P w K mg base CX0 (k + 1) f fd ps (spN K R) := by
  refine F.ok sc (fun vs H Q E h => ?_) (fun cdv A outer s H vs Q E hr h => ?_)
  · obtain ⟨S, ds, M, g, M', r, _, hR, _⟩ := h
    rw [r.len]; exact hl _ _ _ _ hR
  · obtain ⟨S, ds, M, g, M', r, ok, hR, hQ⟩ := h
    refine ⟨_, ((hb cdv A outer s H E hr ds M g M' hR) (frOf S M H)).nox, S, sl_start r, ok, ⟨fun _ _ _ _ _ p => p.elim, fun _ _ _ _ _ p => p.elim, fun _ _ _ _ _ p => p.elim, fun _ _ _ _ _ p => p.elim, fun p xs H' S' ds2 M2 q l ok' hS hF hM hp rl => ?_⟩⟩
    obtain ⟨e, k⟩ := q
    subst e
    refine hQ p xs S' H' l (ok'.less k) hS hF ?_ hp rl
    cases z : M' p with
    | none => rfl
    | some o => rw [k p o z] at hM; cases hM
theorem frOf_none {K : PySem.W.Frag} {F S H : Hp} {M : MS} (ok : Ok K F S M H) {p : Addr} (h : frOf S M H p = none) : F p = none := by
  cases q : F p with
  | none => rfl
  | some o =>
    have h1 : S p = none := ok.fs p (by rw [q]; simp)
    have h2 : M p = none := by
      cases z : M p with
      | none => rfl
      | some u => rw [(ok.m p u z).2.2] at q; cases q
    rw [frOf_eq h1 h2, ok.f p o q] at h
    cases h
end
section
variable {X : Cx} {Γ : Gam} {M M' M1 M2 M3 : MS} {e a b c o iter tg : Expr} {g ga gb gc : D} {ds gs dds : List D} {pos p apos : Pos} {es : List Expr} {kws : List Keyword} {k j n : Nat} {x m : Str}
theorem en_call {R : RlN} (cal : CalN X.prog X.w X.K X.mg X.base k x R) (hr : Room j X.A) (hk : k ≤ j) (ha : EA X Γ M (e :: es) gs M1) (hR : R gs M1 ds M2) (hg : Gl X x)
    (hdb : (x == ("__debug__" : Str)) = false) (he : starEach (e :: es) X.env = (false, eval e X.env) :: starEach es X.env) (hpl : (backTo pos (starEach es X.env)).any (·.1) = false) :
    EN X Γ M (.Call (.Name x p) (e :: es) [] pos) ds M2 := fun F => by
  obtain ⟨f, fd, ps, Fn, hm, kp, bi⟩ := cal.ex
  refine (pe_call Fn (hr.mono hk) hg hm kp bi .nil (pass0 (X := X)) (ha F) hdb he hpl).imp fun σ H Q ⟨S, sl, ok, res⟩ => ⟨S, sl, ok, fun vs S1 H1 l1 ok1 r1 => ?_⟩
  show spN X.K R (vs ++ []) H1 Q E0
  rw [List.append_nil]
  exact ⟨S1, gs, M1, ds, M2, r1, ok1.down, hR, fun p xs S' H' l ok' hS hF hM hp rl => res p xs S' H' (l1.trans l) (ok1.back ok') hS (frOf_none ok1 hF) hM hp rl⟩

/-! ### keywords, no defaults -/
theorem kbn0 {K : PySem.W.Frag} {x qual : Str} {params : Arguments} {body : List Stmt} {scope : Scope} {kws : List (Str × V)} {f : Addr} {fd : FuncData} {ps : List Str} (F : FunD K x qual params body scope [] kws f fd) (n : Nat) (ks : List Str) (g : {α : Type} → List α → List α → List α)
    (hrel : ∀ {vs zs : List V} {us ws : List Value}, Vals vs us → Vals zs ws → Vals (g vs zs) (g us ws))
    (h : ∀ (kV doc pm : Value) (an : Option Addr) (cdv ct : Value) (us ws : List Value), us.length = n → ws.length = ks.length → bindArgs (PySem.W.fnOf x qual params body scope .none kV doc pm an cdv ct) ⟨us, ks.zip ws⟩ = pure (ps.zip (g us ws))) :
    KBn K fd ps n ks (fun us ws => g us ws) (fun vs zs => g vs zs) := by
  obtain ⟨oc, od, dV, kV, doc, pm, an, cdv, ct, osl, rfl, lk, hcd, hD, hK⟩ := F.ex
  rcases hD with ⟨_, rfl⟩ | ⟨e, _⟩
  · exact ⟨fun s us ws _ l1 l2 => .of_eq (h kV doc pm an cdv ct us ws l1 l2), fun r1 r2 => hrel r1 r2⟩
  · exact absurd rfl e

/-! ### a text, walked -/
theorem it_str {x : Str} (he : EV X Γ M e (.str x) M') : IT X Γ M tg e x.cps.size (fun i => .str ⟨#[(x.cps[i]?).getD 0]⟩) (fun _ => True) M' := fun F =>
  (pi_str (he F)).imp fun σ H R ⟨S, sl, ok, q⟩ => ⟨S, sl, ok, fun v S1 H1 l1 ok1 r1 => ⟨x, r1.strE,
    q S1 H1 (Its x) (fun _ => True) (fun i H v H' => H' = H ∧ ∃ c, x.cps[i]? = some c ∧ v = .str ⟨#[c]⟩) l1 ok1 ⟨fun i H hi _ => hi, fun H _ => Nat.le_refl _, fun i H x H' hi _ y => y⟩ (fun _ _ _ _ _ _ _ => True.intro) fun i y F2 S2 M2 H2 H3 hi l2 ok2 _ ⟨e1, c, e2, e3⟩ => by
      subst e1; subst e3
      refine ⟨S2, Le.refl _, ok2, ?_⟩
      show Rep _ _ _ (D.str ⟨#[(x.cps[i]?).getD 0]⟩)
      rw [e2]
      exact .str _⟩⟩

end
end Sy

set_option Elab.async false
set_option linter.all false
set_option maxRecDepth 100000
set_option maxHeartbeats 4000000
/-! Sy11: enumerate of a tuple, a tuple the other way round -/
namespace Sy
open PySem PySem.Spec PyProof.Rows L2
def Itet (K : PySem.W.Frag) (a : Addr) : It :=
  ⟨fun i H => ∃ (xs : List V) (x : V), SqT K H a xs ∧ xs[i]? = some x, fun i H v H' => ∃ T x, v = .ref T ∧ H T = none ∧ H' = upd H T (.tup [.int (i : Nat), x]) ∧ ∀ xs, SqT K H a xs → xs[i]? = some x, fun i H => ∃ xs : List V, SqT K H a xs ∧ xs.length ≤ i⟩
theorem tup_is {h : Heap} {a : Addr} {items : Array Value} (x : IsTup h a items) : h.IsTuple a items := x
theorem turn_enumT {P : Program} {w : World} {K : PySem.W.Frag} {elts : List Expr} {kk : Nat} {tpos : Pos} (a e it : Addr) :
    Turn P w K (.Tuple elts kk tpos) (Itet K a) [e, it] e (fun i h => (∃ old, IsEnum h e it ((i : Nat) : Int) old) ∧ h.IsTupleIter it a i ∧ e ≠ it ∧ a ≠ e ∧ a ≠ it) where
  mem := by simp
  obj := fun i h st b hb => by
    obtain ⟨⟨old, he⟩, ⟨o, ho, hc, hd⟩, _⟩ := st
    have e' : b = e ∨ b = it := by simpa using hb
    rcases e' with z | z
    · rw [z]; exact ⟨_, he, fun v q => nomatch q⟩
    · rw [z]; exact ⟨o, ho, fun v q => by rw [hd] at q; cases q⟩
  keep := fun i h h' st k => let ⟨⟨old, he⟩, hi, hne⟩ := st; ⟨⟨old, k e (by simp) _ he⟩, hi.at fun o q => k it (by simp) o q, hne⟩
  item := by
    intro X hP hw hK hc i pins s σ H E I hf st hg
    subst hP hw hK
    obtain ⟨⟨old, he⟩, hit, hne, na, nb⟩ := st
    obtain ⟨xs, x, hq, hx⟩ := hg
    obtain ⟨its, rv, p, hz⟩ := I.tuple hq
    obtain ⟨u, hu, ru⟩ := rv.get hx
    have hel : e < s.heap.objs.size := Heap.lt_size he
    have hil : it < s.heap.objs.size := by obtain ⟨_, q, _⟩ := hit; exact Heap.lt_size q
    have hi : i < its.toArray.size := by
      have := (List.getElem?_eq_some_iff.mp hu).1
      rw [List.size_toArray]; exact this
    refine wpAny_pyNext_enum_itemD (Draws.tuple (A := X.A.in1) (I.ok.hd hc) it a nb its.toArray) he ⟨hit, tup_is p⟩ hi hne (by simp [hne, Ne.symm na]) fun y h' tk hy ho hit' hT hsz hk => ?_
    obtain ⟨hit', _⟩ := hit'
    have hyu : y = u := by
      have e2 : its.toArray[i]? = some u := by simpa using hu
      rw [e2] at hy
      exact (Option.some.inj hy).symm
    subst hyu
    refine ⟨_, rfl, wpAny_letOwnedTupleGo_enum (s := { s with heap := h', toks := tk + 1 }) ho fun h'' he' sb => ?_⟩
    have hT2 : h''.get? s.heap.objs.size = some { cls := .type "tuple", data := .seq #[.int i tk, y] } := (sb.2 _ (Nat.ne_of_gt hel)).trans hT
    have new : ObjOk X.prog X.w (upd H s.heap.objs.size (.tup [.int (i : Nat), x])) h'' s.heap.objs.size (.tup [.int (i : Nat), x]) :=
      ⟨by show 2 ≤ sizeLine; decide, [.int i tk, y], .cons ⟨_, rfl⟩ (.cons ru .nil), ⟨_, hT2, rfl, _, rfl⟩⟩
    have I1 : Inv X pins σ (upd H s.heap.objs.size (.tup [.int (i : Nat), x])) { s with heap := h'', toks := tk + 1 } :=
      I.turnedNew (ch := [e, it]) (fun b ob hb q => (sb.2 b (fun z => hb (by simp [z]))).trans (hk b ob (fun z => hb (by simp [z])) (fun z => hb (by simp [z])) q)) hf (Nat.le_refl _) new
    refine ⟨.ref s.heap.objs.size, _, I1, rfl, ⟨_, x, rfl, I.hok.fresh (Nat.le_refl _), rfl, fun ys hy => by rw [I.tuple_inj hy hq]; exact hx⟩, ⟨⟨y, ?_⟩, hit'.at fun o q => (sb.2 it (Ne.symm hne)).trans q, hne, na, nb⟩, fun b hb => ?_⟩
    · have e1 : ((i + 1 : Nat) : Int) = (i : Int) + 1 := by omega
      rw [e1]; exact he'
    · have hb' : b < s.heap.objs.size := by
        have e' : b = e ∨ b = it := by simpa using hb
        rcases e' with z | z
        · rw [z]; exact hel
        · rw [z]; exact hil
      rw [upd_ne (Nat.ne_of_lt hb')]
      exact (hf b hb).1
  done := by
    intro X hP hw hK hc i pins s σ H E I hf st hg
    subst hP hw hK
    obtain ⟨⟨old, he⟩, hit, hne, na, nb⟩ := st
    obtain ⟨xs, hq, hx⟩ := hg
    obtain ⟨its, rv, p, hz⟩ := I.tuple hq
    obtain ⟨f0, f1, f2, f3, f4, f5⟩ := hf it (by simp)
    have hl := rv.length
    have hT : s.TypeIs (.ref e) "enumerate" := ⟨_, he, rfl⟩
    unfold pyNext
    refine wpAny_bind (wpAny_attempt (wpAny_callSpecial?_slot (name := Str.ofString "__next__") hT F.slot_enumerate_next
      (wpAny_call_entry F.slot_enumerate_next hT F.entry_enumerate_next ?_ (F.args_enumerate_next_1 _))))
    show wpAny _ _ (field (.ref e) 2 >>= _) _ _ _
    refine wpAny_bind (wpAny_field he rfl (x := .ref it) rfl ?_)
    refine wpAny_bind (wpAny_nextOf_tuple_end (I.ok.hd hc) hit (tup_is p) (by simp; omega) fun h' x eb hx' => ?_)
    obtain ⟨o, ho, hc'⟩ := hx'
    refine wpAny_bind (wpAny_isInstance (T := "StopIteration") (b := true) ⟨o, ho, hc'⟩ isSubtype_stop ?_)
    exact wpAny_pure ⟨rfl, I.turned (t' := s.toks) (fun b o hb q => eb b o hb q) f0 f1 f3 f4 f5⟩
  self := fun A i s Q E st h => let ⟨⟨_, he⟩, _⟩ := st; wpAny_pyIter_enum he h
def iEnumT (K : PySem.W.Frag) (ta : TA) : TI := fun σ H R => ta σ H fun vs H1 => ∃ a xs, vs = [.ref a] ∧ SqT K H1 a xs ∧ R (Itet K a) H1
theorem meets_enumerate_newB0 {v : Value} {o : Obj} {H : Heap → Prop} (B : Begins v o H) :
    Meets (Builtin.«enumerate.__new__» ⟨[.type "enumerate", v], []⟩) (fun _ R s => H s.heap ∧
      R (.ok (.ret (.ref (s.heap.push o).objs.size))) { s with heap := (s.heap.push o).push { cls := .type "enumerate", data := .fields #[.none, .bool false, .ref s.heap.objs.size, rawInt 0, .none, .none] } }) :=
  .of_wp fun prog w A R s h => by
    obtain ⟨hp, g, d, tk, os⟩ := s; obtain ⟨h1, h⟩ := h
    have hsub := sub_enumerate
    have q1 : ∀ {A' : Around} {E : Value → Shared → Prop} {Q : Value → Shared → Prop}, Q (.ref hp.objs.size) ⟨hp.push o, g, d, tk, os⟩ → wpAny (model prog w) A' (pyIter v) Q E ⟨hp, g, d, tk, os⟩ :=
      fun q => B.iter prog w _ _ ⟨hp, g, d, tk, os⟩ _ h1 q
    wp_walk using q1
    refine wpAny_stack_any fun st => wpAny_pure ?_
    split
    · rename_i c _ _ _ _ _
      cases (c == Value.type "enumerate")
      · wp_walk using q1
        exact ⟨_, rfl, h⟩
      · wp_walk using q1
        exact ⟨_, rfl, h⟩
    · wp_walk using q1
      exact ⟨_, rfl, h⟩
theorem call_enum0 {prog : Program} {w : World} {A : Around} {E : Value → Shared → Prop} {s : Shared} {v : Value} {o : Obj} {H : Heap → Prop} {Q : Value → Shared → Prop} (B : Begins v o H) (h1 : H s.heap)
    (h : ∀ h', IsEnum h' (s.heap.objs.size + 1) s.heap.objs.size 0 .none → h'.get? s.heap.objs.size = some o → h'.objs.size = s.heap.objs.size + 2 →
      (∀ b o, s.heap.get? b = some o → h'.get? b = some o) → Q (.ref (s.heap.objs.size + 1)) { s with heap := h' }) :
    wpAny (model prog w) A (call (.type "enumerate") [v]) Q E s := by
  refine callType_new F.called_enumerate (by decide) (F.typeCall_enumerate_1 _) (F.newCall_enumerate_1 _) (fun obj => F.args_object_init_2 obj _) F.entry_enumerate_new
    (meets_enumerate_newB0 B) ⟨h1, ?_⟩
  have hz : (s.heap.push o).objs.size = s.heap.objs.size + 1 := Heap.size_push ..
  show _ ∧ _
  rw [hz]
  have he : IsEnum ((s.heap.push o).push { cls := .type "enumerate", data := .fields #[.none, .bool false, .ref s.heap.objs.size, rawInt 0, .none, .none] }) (s.heap.objs.size + 1) s.heap.objs.size 0 .none := by
    have := Heap.get?_push_size (s.heap.push o) (o := { cls := .type "enumerate", data := .fields #[.none, .bool false, .ref s.heap.objs.size, rawInt 0, .none, .none] }) rfl
    rw [hz] at this; exact this
  refine ⟨⟨_, he, rfl⟩, h _ he (Heap.get?_push_of_some _ (Heap.get?_push_size _ B.free)) (by rw [Heap.size_push, hz]) fun b o x => Heap.get?_push_of_some _ (Heap.get?_push_of_some _ x)⟩
theorem pi_enumT {X : Cx} {e : Expr} {ta : TA} {p pos tpos : Pos} {elts : List Expr} {kk : Nat} (hg : Gl X "enumerate") (hm : X.mg "enumerate" = none) (ha : PA X [e] ta) (hs : starEach [e] X.env = [(false, eval e X.env)] := by rfl) :
    PI X (.Tuple elts kk tpos) (.Call (.Name "enumerate" p) [e] [] pos) (iEnumT X.K ta) := by
  refine ⟨fun pins s σ H R I h => ?_⟩
  refine Call_ (ld_blt I hg hm boot_enumerate (PyProof.Rows.callWith_type1 (thn (ha.run pos pins s σ H _ I h) fun us s1 ⟨vs, H1, I1, r1, q1⟩ => ?_) hs rfl))
  obtain ⟨a, xs, ex, hq, q⟩ := q1
  subst ex
  cases r1 with
  | cons r rr =>
    cases rr
    cases r
    obtain ⟨its, rv, p', hz⟩ := I1.tuple hq
    have hlt : a < s1.heap.objs.size := by obtain ⟨_, q, _⟩ := p'; exact Heap.lt_size q
    refine call_enum0 (begins_tuple a its.toArray) (tup_is p') fun h' he hit hsz hk => wpAny_pyIter_enum he ?_
    have I2 : Inv X pins σ H1 { s1 with heap := h' } := I1.kept (t' := s1.toks) hk
    refine ⟨s1.heap.objs.size + 1, [s1.heap.objs.size + 1, s1.heap.objs.size], _, _, H1, rfl, I2, turn_enumT a (s1.heap.objs.size + 1) s1.heap.objs.size, ⟨⟨.none, he⟩, ⟨_, hit, rfl, rfl⟩, Nat.succ_ne_self _, Nat.ne_of_lt (Nat.lt_succ_of_lt hlt), Nat.ne_of_lt hlt⟩, fun b hb => ?_, q⟩
    have e' : b = s1.heap.objs.size + 1 ∨ b = s1.heap.objs.size := by simpa using hb
    have hle : s1.heap.objs.size ≤ b := by
      rcases e' with z | z
      · rw [z]; exact Nat.le_add_right _ _
      · rw [z]; exact Nat.le_refl _
    exact I1.fpOk hle (I1.hok.fresh hle)
section
variable {X : Cx} {Γ : Gam} {M M' M1 M2 M3 : MS} {e a b c o iter tg : Expr} {g ga gb gc : D} {ds gs dds : List D} {pos p apos tpos : Pos} {es elts : List Expr} {kk : Nat}
def enD (ds : List D) (i : Nat) : D := .tup [.int (i : Nat), atD ds i]
theorem it_enumT (he : EV X Γ M e g M') (hg : TupOf g ds) (hm : X.mg "enumerate" = none) (hgl : Gl X "enumerate") (hs : starEach [e] X.env = [(false, eval e X.env)]) :
    IT X Γ M (.Tuple elts kk tpos) (.Call (.Name "enumerate" p) [e] [] pos) ds.length (enD ds) (fun _ => True) M' := fun F =>
  (pi_enumT hgl hm (pa_cons (he F) pa_nil hs) hs).imp fun σ H R ⟨S, sl, ok, q⟩ => ⟨S, sl, ok, fun v S1 H1 l1 ok1 r1 => by
    have key : ∃ a xs, v = .ref a ∧ SqT X.K S1 a xs ∧ RepL X.K S1 xs ds := by
      rcases hg with z | z
      · subst z; cases r1 with | tup a b => exact ⟨_, _, rfl, SqT.of a, b⟩
      · subst z; cases r1 with | rt a b => exact ⟨_, _, rfl, a, b⟩
    obtain ⟨a, xs, e0, h1, h2⟩ := key
    subst e0
    refine ⟨a, xs, rfl, sqT_le ok1.s h1, q S1 H1 (Itet X.K a) (fun H => SqT X.K H a xs) (fun i H v H' => ∃ T x, v = .ref T ∧ H T = none ∧ H' = upd H T (.tup [.int (i : Nat), x]) ∧ xs[i]? = some x) l1 ok1
      ⟨fun i H hi hq => ⟨xs, xs[i]'(by rw [h2.len]; exact hi), hq, by simp⟩, fun H hq => ⟨xs, hq, by rw [h2.len]; exact Nat.le_refl _⟩, fun i H v H' hi hq ⟨T, x, y1, y2, y3, y4⟩ => ⟨T, x, y1, y2, y3, y4 xs hq⟩⟩ (fun F2 S2 M2 H2 l2 ok2 _ => sqT_le ok2.s (sqT_le l2 h1)) fun i x F2 S2 M2 H2 H3 hi l2 ok2 _ ⟨T, y, e1, e2, e3, e4⟩ => ?_⟩
    subst e1; subst e3
    obtain ⟨d, h3, h4⟩ := (h2.mono l2).atV e4
    have n := (ok2.fresh e2).1
    refine ⟨_, Le.new n, ok2.new e2, .tup upd_same (.cons (.int _) (.cons ?_ .nil))⟩
    rw [atD_of h3]
    exact h4.mono (Le.new n)⟩
theorem it_enumL (he : EV X Γ M e g M') (hg : g = .lst ds ∨ g = .ro ds) (hm : X.mg "enumerate" = none) (hgl : Gl X "enumerate") (hs : starEach [e] X.env = [(false, eval e X.env)]) :
    IT X Γ M (.Tuple elts kk tpos) (.Call (.Name "enumerate" p) [e] [] pos) ds.length (enD ds) (fun _ => True) M' := fun F =>
  (pi_enum hgl hm (pa_cons (he F) pa_nil hs) hs).imp fun σ H R ⟨S, sl, ok, q⟩ => ⟨S, sl, ok, fun v S1 H1 l1 ok1 r1 => by
    have key : ∃ a xs, v = .ref a ∧ SqL X.K S1 a xs ∧ RepL X.K S1 xs ds := by
      rcases hg with z | z
      · subst z; cases r1 with | lst a b => exact ⟨_, _, rfl, SqL.of a, b⟩
      · subst z; cases r1 with | ro a b => exact ⟨_, _, rfl, a, b⟩
    obtain ⟨a, xs, e0, h1, h2⟩ := key
    subst e0
    refine ⟨a, xs, rfl, sqL_le ok1.s h1, q S1 H1 (Ite X.K a) (fun H => SqL X.K H a xs) (fun i H v H' => ∃ T x, v = .ref T ∧ H T = none ∧ H' = upd H T (.tup [.int (i : Nat), x]) ∧ xs[i]? = some x) l1 ok1
      ⟨fun i H hi hq => ⟨xs, xs[i]'(by rw [h2.len]; exact hi), hq, by simp⟩, fun H hq => ⟨xs, hq, by rw [h2.len]; exact Nat.le_refl _⟩, fun i H v H' hi hq ⟨T, x, y1, y2, y3, y4⟩ => ⟨T, x, y1, y2, y3, y4 xs hq⟩⟩ (fun F2 S2 M2 H2 l2 ok2 _ => sqL_le ok2.s (sqL_le l2 h1)) fun i x F2 S2 M2 H2 H3 hi l2 ok2 _ ⟨T, y, e1, e2, e3, e4⟩ => ?_⟩
    subst e1; subst e3
    obtain ⟨d, h3, h4⟩ := (h2.mono l2).atV e4
    have n := (ok2.fresh e2).1
    refine ⟨_, Le.new n, ok2.new e2, .tup upd_same (.cons (.int _) (.cons ?_ .nil))⟩
    rw [atD_of h3]
    exact h4.mono (Le.new n)⟩

/-! ### len(set(t)), t of ints -/
def tLenSetT (K : PySem.W.Frag) (ta : TE) : TE := fun σ H Q => ta σ H fun x H1 => ∃ (l : Addr) (ns : List Int), x = V.ref l ∧ SqT K H1 l (ns.map V.int) ∧ ns.length < 1000 ∧ ns.Nodup ∧ Q (.int ns.length) H1
theorem card_eq {ns ks : List Int} (h1 : ns.Nodup) (h2 : ks.Nodup) (h : ∀ j, j ∈ ks ↔ j ∈ ns) : ks.length = ns.length := by
  have p : ks.Perm ns := (List.perm_ext_iff_of_nodup h2 h1).mpr h
  exact p.length_eq
end
end Sy

set_option Elab.async false
set_option linter.all false
set_option maxRecDepth 100000
set_option maxHeartbeats 4000000
/-! Sy12: the number of a tuple's ints, a tuple the other way round, dicts -/
namespace Sy
open PySem PySem.Spec PyProof.Rows L2
section
variable {X : Cx} {Γ : Gam} {M M' M1 M2 M3 : MS} {e a b c o iter tg : Expr} {g ga gb gc : D} {ds gs dds : List D} {pos p p2 q apos tpos : Pos} {es elts : List Expr} {kk : Nat} {i : Int}
theorem setInt_vals {ns : List Int} : ∀ {us : List Value}, Vals (ns.map V.int) us → IntsAre us ns := intsAre_of
theorem pe_lenSetT {ta : TE} (hc : X.calm = true) (hg : Gl X "len") (hm : X.mg "len" = none) (hg2 : Gl X "set") (hm2 : X.mg "set" = none) (ha : PE X a ta)
    (na : starEach [a] X.env = (false, eval a X.env) :: starEach [] X.env := by rfl) : PE X (.Call (.Name "len" p) [.Call (.Name "set" p2) [a] [] q] [] pos) (tLenSetT X.K ta) := by
  refine ⟨fun pins s σ H Q I h => ?_⟩
  refine Call_ (ld_blt I hg hm PySem.boot_len ?_)
  refine PyProof.Rows.callWith_builtin1 (PyProof.Rows.args_cons ?_ rfl) rfl rfl
  refine Call_ (ld_blt I hg2 hm2 PyProof.Rows.boot_set ?_)
  refine PyProof.Rows.callWith_type1 (PyProof.Rows.args_cons (thn (ha.run pins s σ H _ I h) fun v s1 ⟨x, H1, I1, r1, q1⟩ => PyProof.Rows.args_nil ?_) na) na rfl
  obtain ⟨l, ns, rfl, hq, h1, hnd, q1⟩ := q1
  cases r1
  obtain ⟨its, r, pl, hz⟩ := I1.tuple hq
  refine call_set_tupI ns (I1.ok.hd hc) (show s1.heap.IsTuple l its.toArray from pl) (by simpa using setInt_vals r) (by unfold scanBound; omega) fun h' tk c hS hcl hk => ?_
  refine PyProof.Rows.args_nil ?_
  obtain ⟨o, es, ep, t, ho, hex, hd, _, hnd2, hmem, _, hf, hn, _⟩ := hS
  have hcard : es.size = ns.length := by
    have := card_eq (ks := es.toList.map keyOf) hnd hnd2 fun j => by rw [← hmem j]; simp
    rw [List.length_map, Array.length_toList] at this
    exact this
  have I2 : Inv X pins σ H1 { s1 with heap := h', toks := tk } := I1.kept fun b o e => hk b o e
  exact call_len_set ho hex hd hf (by rw [hcard] <;> omega) ⟨.int ns.length, H1, I2.tok _, ⟨_, by rw [hcard]⟩, q1⟩
theorem ev_lenSet {ns : List Int} (ha : EV X Γ M a (.tup (ns.map D.int)) M') (hnd : ns.Nodup) (hl : ns.length < 1000) (hc : X.calm = true) (hg : Gl X "len") (hm : X.mg "len" = none) (hg2 : Gl X "set") (hm2 : X.mg "set" = none) (na : starEach [a] X.env = (false, eval a X.env) :: starEach [] X.env) :
    EV X Γ M (.Call (.Name "len" p) [.Call (.Name "set" p2) [a] [] q] [] pos) (.int ns.length) M' := fun F =>
  (pe_lenSetT hc hg hm hg2 hm2 (ha F) na).imp fun σ H Q ⟨S, sl, ok, res⟩ => ⟨S, sl, ok, fun v S1 H1 l1 ok1 r1 => by
    cases r1 with
    | tup h1 h2 =>
      have e := h2.intsE
      subst e
      exact ⟨_, ns, rfl, SqT.of (ok1.s _ _ h1), hl, hnd, res _ S1 H1 l1 ok1 (.int _)⟩⟩

/-! ### t[::-1] -/
theorem fmap_congr {α β : Type} {f g : α → Option β} : ∀ {l : List α}, (∀ x ∈ l, f x = g x) → l.filterMap f = l.filterMap g
  | [], _ => rfl
  | x :: l, h => by
    rw [List.filterMap_cons, List.filterMap_cons, h x (List.mem_cons_self ..), fmap_congr fun y hy => h y (List.mem_cons_of_mem _ hy)]
theorem getItem_tuple_rev {prog : Program} {w : World} {A : Around} {E : Value → Shared → Prop} {s : Shared} {t sl : Addr} {items : Array Value} {vl vu : Value} {tk : Tok} {Q : Value → Shared → Prop} (ht : IsTup s.heap t items) (hs : s.heap.IsSliceOf sl vl vu (.int (-1) tk)) (pl : IsPart vl none) (pu : IsPart vu none)
    (h : Q (.ref s.heap.objs.size) { s with heap := s.heap.push { cls := .type "tuple", data := .seq items.toList.reverse.toArray } })
    (hsz : items.size ≤ sizeLine) : wpAny (model prog w) A (getItem (.ref t) (.ref sl)) Q E s := by
  have htake : sizeOk (.seq items.toList.reverse.toArray) := by
    show items.toList.reverse.toArray.size ≤ sizeLine
    rw [List.size_toArray, List.length_reverse, Array.length_toList]
    exact hsz
  obtain ⟨os, hos, hcs, hds⟩ := id hs
  have hTs : s.TypeIs (.ref sl) "slice" := ⟨os, hos, hcs⟩
  unfold getItem
  try with_reducible refine wpAny_holding ?_
  first | refine wpAny_bind (wpAny_pure ?_) | skip
  refine wpAny_bind (wpAny_sequenceKey ht.typeIs (by decide) ?_)
  refine wpAny_bind (wpAny_callSpecial?_slot (name := Str.ofString "__getitem__") ht.typeIs PyProof.Rows.slot_tuple_getitem
    (wpAny_call_entry PyProof.Rows.slot_tuple_getitem ht.typeIs PyProof.Rows.entry_tuple_getitem ?_ (PyProof.Rows.args_tuple_getitem _ _)))
  show wpAny _ _ (Builtin.Tuple.tupleItemsOf (.ref t) >>= _) _ _ s
  refine wpAny_bind (PyProof.Rows.tupleItemsOf_ ht ?_)
  refine wpAny_bind (wpAny_typeOf hTs ?_)
  rw [if_pos (by decide)]
  have app : ∀ {Q2 : Int × Int × Nat → Shared → Prop} {E2 : Value → Shared → Prop} {A2 : Around}, Q2 ((items.size : Int) - 1, -1, items.size) s → wpAny (model prog w) A2 (Builtin.Slice.sliceApplied (.ref sl) (pure (items.size : Int))) Q2 E2 s := fun {Q2 E2 A2} h2 => by
    unfold Builtin.Slice.sliceApplied Builtin.Slice.sliceFields
    refine wpAny_bind (wpAny_bind (wpAny_field hos hds (x := vl) rfl (wpAny_bind (wpAny_field hos hds (x := vu) rfl (wpAny_bind (wpAny_field hos hds (x := .int (-1) tk) rfl (wpAny_pure ?_)))))))
    refine wpAny_bind (HT.slicePart_ (.int (-1) tk) ?_)
    show wpAny _ _ (if ((-1 : Int) == 0) = true then _ else _) _ _ s
    rw [if_neg (by decide)]
    refine wpAny_bind (HT.slicePart_ pl (wpAny_bind (HT.slicePart_ pu (wpAny_bind (wpAny_pure ?_)))))
    show wpAny _ _ (pure ((items.size : Int) - 1, (-1 : Int), Builtin.Slice.slicePlaces ((items.size : Int) - 1) (-1) (-1))) _ _ s
    have : Builtin.Slice.slicePlaces ((items.size : Int) - 1) (-1) (-1) = items.size := by
      unfold Builtin.Slice.slicePlaces
      rw [if_neg (by decide)]
      split
      · have : -(-1 : Int) = 1 := rfl
        rw [this, Int.ediv_one]; omega
      · have : items.size = 0 := by omega
        omega
    rw [this]
    exact wpAny_pure h2
  refine wpAny_bind (app ?_)
  show wpAny _ _ (if (((items.size : Int) - 1) == 0 && (-1 : Int) == 1 && items.size == items.size) = true then _ else _) _ _ s
  rw [if_neg (by simp)]
  have pick : ((List.range items.size).filterMap fun (k : Nat) => items[((items.size : Int) - 1 + (k : Int) * (-1)).toNat]?).toArray = items.toList.reverse.toArray := by
    congr 1
    have h1 : ((List.range items.size).filterMap fun (k : Nat) => items[((items.size : Int) - 1 + (k : Int) * (-1)).toNat]?) = (List.range items.size).filterMap fun k => items.toList.reverse[k]? := by
      refine fmap_congr fun k hk => ?_
      have hk := List.mem_range.mp hk
      have e1 : ((items.size : Int) - 1 + (k : Int) * (-1)).toNat = items.size - 1 - k := by omega
      rw [e1, List.getElem?_reverse (by simpa using hk)]
      simp
    rw [h1]
    have gen : ∀ (xs : List Value) , (List.range xs.length).filterMap (fun k => xs[k]?) = xs := by
      intro xs
      induction xs with
      | nil => rfl
      | cons x xs ih =>
        rw [List.length_cons, List.range_succ_eq_map, List.filterMap_cons]
        simp only [List.getElem?_cons_zero, List.filterMap_map]
        congr 1
    have := gen items.toList.reverse
    rw [List.length_reverse, Array.length_toList] at this
    exact this
  rw [pick]
  first
    | exact wpAny_bind (m := Builtin.Tuple.tupleExact _) (wpAny_newObj_type (wpAny_pure ⟨_, rfl, wpAny_pure h⟩) htake)
    | exact wpAny_bind (m := Builtin.Tuple.tupleExact _) (wpAny_newObj_type (wpAny_bind (wpAny_pure (wpAny_pure ⟨_, rfl, wpAny_pure h⟩))) htake)
    | exact wpAny_bind (wpAny_bind (m := Builtin.Tuple.tupleExact _) (wpAny_newObj_type (wpAny_pure (wpAny_pure ⟨_, rfl, wpAny_pure h⟩)) htake))
    | exact wpAny_bind (wpAny_bind (m := Builtin.Tuple.tupleExact _) (wpAny_newObj_type (wpAny_pure ⟨_, rfl, wpAny_pure h⟩) htake))
def tRevT (K : PySem.W.Frag) (te : TE) : TE := fun σ H Q => te σ H fun x H1 => ∃ a xs, x = .ref a ∧ SqT K H1 a xs ∧ ∀ p, H1 p = none → Q (.ref p) (upd H1 p (.tup xs.reverse))
theorem pe_revT {te : TE} {k : Nat} {p1 p2 p3 pos : Pos} (he : PE X e te) : PE X (.Subscript e (.Slice none none (some (.UnaryOp .USub (.Constant (.int 1) k p1) p2)) p3) pos) (tRevT X.K te) := by
  refine ⟨fun pins s σ H Q I h => ?_⟩
  refine Subscript_ (thn (he.run pins s σ H _ I h) fun v s1 ⟨x, H1, I1, r1, q1⟩ => ?_)
  obtain ⟨a, xs, ex, hx, q⟩ := q1
  subst ex
  cases r1
  have hst : PO X (some (.UnaryOp .USub (.Constant (.int 1) k p1) p2)) (tPart (tUn (rU fun i => .int (-i)) (tC (.int 1)))) := po_some (pe_un un_neg pe_int)
  refine wpAny_Slice (thn (po_none.run pins s1 σ H1 (fun o H2 => o = none ∧ H2 = H1) I1 ⟨rfl, rfl⟩) fun vl s2 ⟨l, H2, I2, pl, el, e2⟩ => ?_)
  subst el e2
  refine thn (po_none.run pins s2 σ H2 (fun o H3 => o = none ∧ H3 = H2) I2 ⟨rfl, rfl⟩) fun vu s3 ⟨u, H3, I3, pu, eu, e3⟩ => ?_
  subst eu e3
  refine thn (hst.run pins s3 σ H3 (fun o H4 => o = some (-1) ∧ H4 = H3) I3 ⟨1, rfl, -1, rfl, rfl, rfl⟩) fun vs s4 ⟨o, H4, I4, ps, eo, e4⟩ => ?_
  subst eo e4
  have I5 : Inv X pins σ H4 { s4 with heap := s4.heap.push { cls := .type "slice", data := .fields #[vl, vu, vs] } } := I4.kept (t' := s4.toks) fun b ob q => Heap.get?_push_of_some _ q
  obtain ⟨its, r, ht, hz⟩ := I5.tuple hx
  have hlen := r.length
  cases ps
  show wpAny (model X.prog X.w) X.A (subscriptTail e (.Slice none none (some (.UnaryOp .USub (.Constant (.int 1) k p1) p2)) p3) (.ref a) (.ref s4.heap.objs.size)) (EP X pins σ Q) X.xe { s4 with heap := s4.heap.push { cls := .type "slice", data := .fields #[vl, vu, _] } }
  refine tail_any (ops := [.ref a, .ref s4.heap.objs.size]) ht.typeIs (PyProof.Rows.slot_tuple_getitem.lookup) ?_ (by with_unfolding_all rfl)
  refine getItem_tuple_rev ht (Heap.IsSliceOf.new _ vl vu _) pl pu ?_ (by rw [List.size_toArray]; omega)
  refine ⟨.ref _, _, I5.laid (t' := s4.toks) (o := .tup xs.reverse) (fun b ob q => Heap.get?_push_of_some _ q) (Nat.le_refl _) ?_, rfl, q _ (I5.hok.fresh (Nat.le_refl _))⟩
  exact ⟨by rw [List.length_reverse]; exact hz, _, r.reverse, _, Heap.get?_push_size _ rfl, rfl, _, rfl⟩
theorem ev_revT {k : Nat} {p1 p2 p3 : Pos} (ha : EV X Γ M a ga M1) (hg : TupOf ga ds) : EV X Γ M (.Subscript a (.Slice none none (some (.UnaryOp .USub (.Constant (.int 1) k p1) p2)) p3) pos) (.tup ds.reverse) M1 := fun F =>
  (pe_revT (ha F)).imp fun σ H Q ⟨S, sl, ok, res⟩ => ⟨S, sl, ok, fun v S1 H1 l1 ok1 r1 => by
    obtain ⟨p0, xs, e1, e2, e3⟩ := hg.get ok1 r1
    exact ⟨p0, xs, e1, e2, fun p hp => (res.up l1).newT ok1 e3.rev hp⟩⟩
end
end Sy

set_option Elab.async false
set_option linter.all false
set_option maxRecDepth 100000
set_option maxHeartbeats 4000000
/-! Sy13: dicts with keys that are ints -/
namespace Sy
open PySem PySem.Spec PyProof.Rows L2
theorem valV_at {k : Key} : ∀ {kvs : List (Key × V)} {n : Nat}, (kvs.map (·.1)).Nodup → (kvs.map (·.1))[n]? = some k → valV kvs k = (kvs.map (·.2))[n]?
  | [], _, _, h => by simp at h
  | p :: r, 0, _, h => by
    simp at h
    rw [valV_pos h]; rfl
  | p :: r, n + 1, hn, h => by
    simp only [List.map_cons, List.nodup_cons] at hn
    have h' : (r.map (·.1))[n]? = some k := by simpa using h
    have ne : ¬ p.1 = k := fun z => hn.1 (by rw [z]; exact List.mem_of_getElem? h')
    rw [valV_neg ne, valV_at hn.2 h']
    simp
theorem putK_new {k : Key} {v : V} {kvs : List (Key × V)} (h : k ∉ kvs.map (·.1)) : putK kvs k v = kvs ++ [(k, v)] := by
  unfold putK
  rw [if_neg]
  intro q
  obtain ⟨p, hp, e⟩ := List.any_eq_true.mp q
  exact h (by rw [← of_decide_eq_true e]; exact List.mem_map_of_mem hp)
section
variable {X : Cx} {Γ : Gam} {M M' M1 M2 M3 : MS} {e a b c o : Expr} {g ga gb gc : D} {ds gs dds : List D} {pos p apos tpos : Pos} {i : Int} {q : Addr} {P : Post} {rest : List Stmt} {ks : List Int}
/-- d[i] -/
theorem ev_dget {n : Nat} (hu : X.A.units + 1 < cLine) (ho : EV X Γ M o (.raw (.ref q)) M1) (hb : EV X Γ M1 b (.int i) M2) (hq : M2 q = some (.dk (ks.map Sum.inl) ds)) (hn : ks.Nodup) (hk : ks[n]? = some i) (hd : ds[n]? = some g) (hs : NoSl b) : EV X Γ M (.Subscript o b pos) g M2 := fun F =>
  (pe_dget hu (ho F) (hb F) hs).imp fun σ H Q ⟨S, sl, ok, res⟩ => ⟨S, sl, ok, fun x S1 H1 l1 ok1 rx => ⟨S1, sl.mono l1, ok1, fun y S2 H2 l2 ok2 ry => by
    obtain ⟨kvs, h1, h2, h3⟩ := (ok2.m q _ hq).1
    obtain ⟨v, h4, h5⟩ := h3.at_ hd
    have hn' : (kvs.map (·.1)).Nodup := by rw [h2]; exact List.pairwise_map.mpr (hn.imp fun h e => h (Sum.inl.inj e))
    have hv : valV kvs (Sum.inl i) = some v := by rw [valV_at hn' (n := n) (by rw [h2, List.getElem?_map, hk]; rfl)]; exact h4
    refine ⟨q, v, rx.rawE, ?_, res v S2 H2 (l1.trans l2) ok2 h5⟩
    rw [ry.intE, ← hv]
    exact DGet.k (k := Sum.inl i) h1⟩⟩
/-- d[i] = e, a new key -/
theorem ss_dput (hu : X.A.units + 1 < cLine) (hv : EV X Γ M c g M1) (ho : EV X Γ M1 o (.raw (.ref q)) M2) (hb : EV X Γ M2 b (.int i) M3) (hq : M3 q = some (.dk (ks.map Sum.inl) ds)) (hk : i ∉ ks) (hl : ks.length < 100000)
    (hs : swapsWith c (some (.Subscript o b apos)) pos.line X.env = pure false) (h : SS X Γ (updM M3 q (.dk ((ks ++ [i]).map Sum.inl) (ds ++ [g]))) rest P) : SS X Γ M (.Assign [.Subscript o b apos] c pos :: rest) P :=
  ss_step (fun F => (ps_dput hu (ho F) (hb F) (hv F) hs).imp fun E σ H ⟨S, sl, ok, fin⟩ => ⟨S, sl, ok, fun v S1 H1 l1 ok1 r1 => ⟨S1, sl.mono l1, ok1, fun x S2 H2 l2 ok2 rx => ⟨S2, sl.mono (l1.trans l2), ok2, fun y S3 H3 l3 ok3 ry => by
    obtain ⟨kvs, h1, h2, h3⟩ := (ok3.m q _ hq).1
    have hlen : kvs.length = ks.length := by
      have := congrArg List.length h2
      simpa using this
    have hz : kvs.length < sizeLine := by rw [hlen]; exact Nat.lt_of_lt_of_le hl (by decide)
    refine ⟨q, _, rx.rawE, by rw [ry.intE]; exact DPut.k (k := Sum.inl i) (v := v) h1 hz, ?_⟩
    have hn : (Sum.inl i : Key) ∉ kvs.map (·.1) := by
      rw [h2]; intro z
      obtain ⟨j, hj, e⟩ := List.mem_map.mp z
      exact hk (by rw [← Sum.inl.inj e]; exact hj)
    rw [putK_new hn]
    refine fin.nx _ _ S3 _ _ ⟨rfl, rfl⟩ ((l1.trans l2).trans l3) (sl.mono ((l1.trans l2).trans l3)) (ok3.chg hq ⟨_, upd_same, ?_, ?_⟩)
    · rw [List.map_append, h2, List.map_append]; rfl
    · rw [List.map_append]
      exact h3.app (.cons (r1.mono (l2.trans l3)) .nil)⟩⟩⟩) h
/-- x = {k: v} -/
theorem ss_setD1 (n : Nat) {x : Str} {px : Pos} (hb : EV X Γ M b (.int i) M) (hv : EV X Γ M c g M) (hN : X.N.Nodup) (hi : X.N[n]? = some x) (hx : Loc X.env.scope x) (hf : X.fn x = true ∨ X.env.scope.names.lookup x = some .local)
    (hs : swapsWith (.Dict [some b] [c] apos) (some (.Name x px)) pos.line X.env = pure false) (h : ∀ q, M q = none → SS X (Γ.set n (some (.raw (.ref q)))) (updM M q (.dk ([i].map Sum.inl) [g])) rest P) : SS X Γ M (.Assign [.Name x px] (.Dict [some b] [c] apos) pos :: rest) P :=
  ss_cons (N := fun Γ' M2 => ∃ q, M q = none ∧ Γ' = Γ.set n (some (.raw (.ref q))) ∧ M2 = updM M q (.dk ([i].map Sum.inl) [g]))
    (fun F => by
      have pb : PE X b (fun σ H Q => ∃ G : Hp, tEv X.K G Γ M (.int i) M σ H Q) := PE.ex fun G => hb G
      have pc : PE X c (fun σ H Q => ∃ G : Hp, tEv X.K G Γ M g M σ H Q) := PE.ex fun G => hv G
      refine (ps_set hN hi hx (pe_disp (pps_cons pb pc pps_nil) rfl rfl (by simp) (by simp)) hs hf).imp fun E σ H ⟨S, sl, ok, fin⟩ => fun q0 hq0 => ?_
      obtain ⟨f1, f2, f3⟩ := ok.fresh hq0
      -- the empty dict is seen as the caller's
      have okF : Ok X.K (upd F q0 (.dK [])) S M (upd H q0 (.dK [])) := ⟨ok.s.updR f1, fun a u z => by
          by_cases y : a = q0
          · subst y; rw [upd_same] at z ⊢; exact z
          · rw [upd_ne y] at z ⊢; exact ok.f a u z, fun a ha => by
          by_cases y : a = q0
          · subst y; exact f1
          · rw [upd_ne y] at ha; exact ok.fs a ha, fun a u z => by
          obtain ⟨a1, a2, a3⟩ := ok.m a u z
          have : a ≠ q0 := fun y => by rw [y, f3] at z; cases z
          exact ⟨a1.mono (Le.refl _) (upd_ne this), a2, by rw [upd_ne this]; exact a3⟩⟩
      refine ⟨_, S, sl, okF, fun x S1 H1 l1 ok1 r1 => ⟨_, S1, sl.mono l1, ok1, fun y S2 H2 l2 ok2 r2 => ?_⟩⟩
      refine ⟨ok2.f q0 _ upd_same, [(Sum.inl i, y)], by rw [r1.intE]; rfl, by simp, ?_⟩
      have hm : mergeK [] [((Sum.inl i : Key), y)] = [(Sum.inl i, y)] := rfl
      rw [hm]
      have s0 : S2 q0 = none := ok2.fs q0 (by rw [upd_same]; simp)
      refine fin.nx _ _ S2 _ _ ⟨q0, f3, rfl, rfl⟩ (l1.trans l2) ((sl.mono (l1.trans l2)).set (.raw _)) ⟨ok2.s.updR s0, fun a u z => ?_, fun a ha => ok2.fs a (by rw [upd_ne fun y => ha (by rw [y]; exact f2)]; exact ha), fun a u z => ?_⟩
      · have : a ≠ q0 := fun y => by rw [y, f2] at z; cases z
        rw [upd_ne this]
        exact ok2.f a u (by rw [upd_ne this]; exact z)
      · by_cases y' : a = q0
        · subst y'
          rw [updM_same] at z
          cases z
          exact ⟨⟨_, upd_same, rfl, .cons r2 .nil⟩, s0, f2⟩
        · rw [updM_ne y'] at z
          obtain ⟨a1, a2, a3⟩ := ok2.m a u z
          exact ⟨a1.mono (Le.refl _) (upd_ne y'), a2, by rw [upd_ne y'] at a3; exact a3⟩)
    fun Γ' M2 ⟨q, h1, h2, h3⟩ => by subst h2; subst h3; exact h q h1
end
end Sy

set_option Elab.async false
set_option linter.all false
set_option maxRecDepth 100000
set_option maxHeartbeats 4000000
/-! Sy14: comprehensions whose turns change nothing; and, or of truths -/
namespace Sy
open PySem PySem.Spec PyProof.Rows L2
section
variable {X : Cx} {scope : Scope} {Γ : Gam} {M M' M1 M2 M3 : MS} {e a b c elt iter tg : Expr} {ifs rest : List Expr} {g ga gb gc : D} {ds es : List D} {pos p : Pos} {n : Nat} {Yd : Nat → D} {Gd : MS → Prop} {own : List (Str × Nat)} {up : D → Gam → Gam} {shape : D → Prop} {t u : Bool}
theorem ev_andB (ha : EV X Γ M a (.bl t) M) (hb : t = true → EV X Γ M (.BoolOp .And (b :: rest) pos) (.bl u) M) : EV X Γ M (.BoolOp .And (a :: b :: rest) pos) (.bl (t && u)) M := by
  cases t with
  | true => exact ev_and ha hb fun e => nomatch e
  | false => exact ev_and ha (fun e => nomatch e) fun _ => ⟨rfl, rfl⟩
theorem ev_orB (ha : EV X Γ M a (.bl t) M) (hb : t = false → EV X Γ M (.BoolOp .Or (b :: rest) pos) (.bl u) M) : EV X Γ M (.BoolOp .Or (a :: b :: rest) pos) (.bl (t || u)) M := by
  cases t with
  | false => exact ev_or ha hb fun e => nomatch e
  | true => exact ev_or ha (fun e => nomatch e) fun _ => ⟨rfl, rfl⟩
theorem ew_andF (ha : ET X Γ M a false M') : EW X Γ M (.BoolOp .And (a :: b :: rest) pos) false M' := ew_and (u := false) ha (fun e => nomatch e) fun _ => rfl
theorem ew_andT (ha : ET X Γ M a true M1) (hb : EW X Γ M1 (.BoolOp .And (b :: rest) pos) u M') : EW X Γ M (.BoolOp .And (a :: b :: rest) pos) u M' := ew_and ha (fun _ => hb) fun e => nomatch e
theorem ew_orT (ha : ET X Γ M a true M') : EW X Γ M (.BoolOp .Or (a :: b :: rest) pos) true M' := ew_or (u := false) ha (fun e => nomatch e) fun _ => rfl
theorem ew_orF (ha : ET X Γ M a false M1) (hb : EW X Γ M1 (.BoolOp .Or (b :: rest) pos) u M') : EW X Γ M (.BoolOp .Or (a :: b :: rest) pos) u M' := ew_or ha (fun _ => hb) fun e => nomatch e
theorem et_toF (h : ET X Γ M e t M') (ht : t = false) : ET X Γ M e false M' := by subst ht; exact h
theorem et_toT (h : ET X Γ M e t M') (ht : t = true) : ET X Γ M e true M' := by subst ht; exact h
theorem ev_andF (ha : EV X Γ M a (.bl false) M') : EV X Γ M (.BoolOp .And (a :: b :: rest) pos) (.bl false) M' := ev_and (t := false) (M2 := M') ha (fun e => nomatch e) fun _ => ⟨rfl, rfl⟩
theorem ev_andT (ha : EV X Γ M a (.bl true) M1) (hb : EV X Γ M1 (.BoolOp .And (b :: rest) pos) g M') : EV X Γ M (.BoolOp .And (a :: b :: rest) pos) g M' := ev_and ha (fun _ => hb) fun e => nomatch e

theorem ev_orT (ha : EV X Γ M a (.bl true) M') : EV X Γ M (.BoolOp .Or (a :: b :: rest) pos) (.bl true) M' := ev_or (t := true) (M2 := M') ha (fun e => nomatch e) fun _ => ⟨rfl, rfl⟩
theorem ev_orF (ha : EV X Γ M a (.bl false) M1) (hb : EV X Γ M1 (.BoolOp .Or (b :: rest) pos) g M') : EV X Γ M (.BoolOp .Or (a :: b :: rest) pos) g M' := ev_or ha (fun _ => hb) fun e => nomatch e
theorem oi_seq {i : Int} (hs : SeqOf M ga ds) (h : atI ds i = some g) : ∃ r, IxR X r ∧ RD X.K r ga (.int i) M g M := by
  rcases hs with h1 | h1
  · exact oi_lst h1 h
  · exact oi_tup h1 h
theorem atI_nn {i : Int} (h0 : 0 ≤ i) (h : ds[i.toNat]? = some g) : atI ds i = some g := atI_of h (by omega)
theorem atI_ints {ns : List Int} {i : Int} (h0 : 0 ≤ i) (h1 : i < ns.length) : atI (ns.map D.int) i = some (.int ((ns[i.toNat]?).getD 0)) := by
  refine atI_nn h0 ?_
  rw [List.getElem?_map, List.getElem?_eq_getElem (by omega)]
  rfl
theorem map_range_atD (f : D → D) : ∀ ds : List D, (List.range ds.length).map (fun i => f (atD ds i)) = ds.map f := fun ds => by
  apply List.ext_getElem?
  intro i
  rw [List.getElem?_map, List.getElem?_map]
  by_cases h : i < ds.length
  · rw [List.getElem?_range h, List.getElem?_eq_getElem h]
    show some (f (atD ds i)) = some (f ds[i])
    rw [atD_of (List.getElem?_eq_getElem h)]
  · rw [List.getElem?_eq_none (by simpa using h), List.getElem?_eq_none (by simpa using h)]
    rfl
theorem filt_range_atD (f : D → D) (p : D → Bool) (ds : List D) : ((List.range ds.length).filter fun i => p (atD ds i)).map (fun i => f (atD ds i)) = (ds.filter p).map f := by
  have h1 : (List.range ds.length).map (fun i => atD ds i) = ds := by
    have := map_range_atD id ds
    simpa using this
  have h2 : ((List.range ds.length).filter fun i => p (atD ds i)).map (fun i => f (atD ds i)) = ((((List.range ds.length).map (fun i => atD ds i)).filter p).map f) := by
    rw [List.filter_map, List.map_map]; rfl
  rw [h2, h1]
theorem en_map0 (f : Nat → D) (hi : IT X Γ M tg iter n Yd Gd M1) (htg : TgOk X scope (own.map (·.2)) tg shape up) (ok : BlkOk X.N X.env.scope scope own) (hc : X.calm = true) (hN : X.N.Nodup) (hs : ∀ x, foldedSetIterable iter X.env x = pure x)
    (hn : n ≤ 100000) (hG : Gd M1) (hsh : ∀ i, i < n → shape (Yd i)) (he : ∀ i, i < n → EVb X scope (up (Yd i) (wipeG Γ (own.map (·.2)))) M1 elt (f i) M1) : EN X Γ M (.ListComp elt [⟨tg, iter, [], 0⟩] scope pos) ((List.range n).map f) M1 :=
  en_lc (fun i acc M' => acc = (List.range i).map f ∧ M' = M1) hi htg ok hc hN hs hn ⟨rfl, rfl⟩ (fun i acc M' _ ⟨_, e⟩ => by rw [e]; exact hG) hsh
    (fun i acc M' hin ⟨e1, e2⟩ => by
      subst e1; subst e2
      exact ⟨true, M', etb_nil, fun _ => ⟨f i, M', he i hin, by rw [List.range_succ, List.map_append]; rfl, rfl⟩, fun e => nomatch e⟩)
    fun acc M2 h => h
theorem en_filt0 (f : Nat → D) (q : Nat → Bool) (hi : IT X Γ M tg iter n Yd Gd M1) (htg : TgOk X scope (own.map (·.2)) tg shape up) (ok : BlkOk X.N X.env.scope scope own) (hc : X.calm = true) (hN : X.N.Nodup) (hs : ∀ x, foldedSetIterable iter X.env x = pure x)
    (hn : n ≤ 100000) (hG : Gd M1) (hsh : ∀ i, i < n → shape (Yd i)) (ht : ∀ i, i < n → ∀ s H C cl fp, ET (Bk X scope s H C cl fp) (up (Yd i) (wipeG Γ (own.map (·.2)))) M1 c (q i) M1)
    (he : ∀ i, i < n → q i = true → EVb X scope (up (Yd i) (wipeG Γ (own.map (·.2)))) M1 elt (f i) M1) : EN X Γ M (.ListComp elt [⟨tg, iter, [c], 0⟩] scope pos) (((List.range n).filter q).map f) M1 :=
  en_lc (fun i acc M' => acc = ((List.range i).filter q).map f ∧ M' = M1) hi htg ok hc hN hs hn ⟨rfl, rfl⟩ (fun i acc M' _ ⟨_, e⟩ => by rw [e]; exact hG) hsh
    (fun i acc M' hin ⟨e1, e2⟩ => by
      subst e1; subst e2
      refine ⟨q i, M', etb_one (ht i hin), fun e => ⟨f i, M', he i hin e, ?_, rfl⟩, fun e => ⟨?_, rfl⟩⟩
      · rw [List.range_succ, List.filter_append, List.map_append]
        simp [e]
      · rw [List.range_succ, List.filter_append, List.map_append]
        simp [e])
    fun acc M2 h => h
theorem en_mapL (f : D → D) (hi : IT X Γ M tg iter ds.length (atD ds) Gd M1) (htg : TgOk X scope (own.map (·.2)) tg shape up) (ok : BlkOk X.N X.env.scope scope own) (hc : X.calm = true) (hN : X.N.Nodup) (hs : ∀ x, foldedSetIterable iter X.env x = pure x)
    (hn : ds.length ≤ 100000) (hG : Gd M1) (hsh : ∀ d ∈ ds, shape d) (he : ∀ d ∈ ds, EVb X scope (up d (wipeG Γ (own.map (·.2)))) M1 elt (f d) M1) : EN X Γ M (.ListComp elt [⟨tg, iter, [], 0⟩] scope pos) (ds.map f) M1 := by
  have hm : ∀ i, i < ds.length → atD ds i ∈ ds := fun i h => by rw [atD_of (List.getElem?_eq_getElem h)]; exact List.getElem_mem h
  have := en_map0 (elt := elt) (pos := pos) (fun i => f (atD ds i)) hi htg ok hc hN hs hn hG (fun i h => hsh _ (hm i h)) fun i h => he _ (hm i h)
  rw [map_range_atD] at this
  exact this
theorem en_filtL (f : D → D) (q : D → Bool) (hi : IT X Γ M tg iter ds.length (atD ds) Gd M1) (htg : TgOk X scope (own.map (·.2)) tg shape up) (ok : BlkOk X.N X.env.scope scope own) (hc : X.calm = true) (hN : X.N.Nodup) (hs : ∀ x, foldedSetIterable iter X.env x = pure x)
    (hn : ds.length ≤ 100000) (hG : Gd M1) (hsh : ∀ d ∈ ds, shape d) (ht : ∀ d ∈ ds, ∀ s H C cl fp, ET (Bk X scope s H C cl fp) (up d (wipeG Γ (own.map (·.2)))) M1 c (q d) M1)
    (he : ∀ d ∈ ds, EVb X scope (up d (wipeG Γ (own.map (·.2)))) M1 elt (f d) M1) : EN X Γ M (.ListComp elt [⟨tg, iter, [c], 0⟩] scope pos) ((ds.filter q).map f) M1 := by
  have hm : ∀ i, i < ds.length → atD ds i ∈ ds := fun i h => by rw [atD_of (List.getElem?_eq_getElem h)]; exact List.getElem_mem h
  have := en_filt0 (elt := elt) (c := c) (pos := pos) (fun i => f (atD ds i)) (fun i => q (atD ds i)) hi htg ok hc hN hs hn hG (fun i h => hsh _ (hm i h)) (fun i h => ht _ (hm i h)) fun i h _ => he _ (hm i h)
  rw [filt_range_atD] at this
  exact this
theorem en_mapR {lo hi' : Int} (f : Int → D) (hi : IT X Γ M tg iter (hi' - lo).toNat (ixD lo) Gd M1) (htg : TgOk X scope (own.map (·.2)) tg shape up) (ok : BlkOk X.N X.env.scope scope own) (hc : X.calm = true) (hN : X.N.Nodup) (hs : ∀ x, foldedSetIterable iter X.env x = pure x)
    (hn : (hi' - lo).toNat ≤ 100000) (hG : Gd M1) (hsh : ∀ j : Int, shape (.int j)) (he : ∀ j : Int, lo ≤ j → j < hi' → EVb X scope (up (.int j) (wipeG Γ (own.map (·.2)))) M1 elt (f j) M1) : EN X Γ M (.ListComp elt [⟨tg, iter, [], 0⟩] scope pos) ((rgI lo hi').map f) M1 := by
  have := en_map0 (elt := elt) (pos := pos) (fun i => f (lo + (i : Int))) hi htg ok hc hN hs hn hG (fun i h => hsh _) fun i h => he _ (by omega) (by omega)
  unfold rgI
  rw [List.map_map]
  exact this
theorem en_filtR {lo hi' : Int} (f : Int → D) (q : Int → Bool) (hi : IT X Γ M tg iter (hi' - lo).toNat (ixD lo) Gd M1) (htg : TgOk X scope (own.map (·.2)) tg shape up) (ok : BlkOk X.N X.env.scope scope own) (hc : X.calm = true) (hN : X.N.Nodup) (hs : ∀ x, foldedSetIterable iter X.env x = pure x)
    (hn : (hi' - lo).toNat ≤ 100000) (hG : Gd M1) (hsh : ∀ j : Int, shape (.int j)) (ht : ∀ j : Int, lo ≤ j → j < hi' → ∀ s H C cl fp, ET (Bk X scope s H C cl fp) (up (.int j) (wipeG Γ (own.map (·.2)))) M1 c (q j) M1)
    (he : ∀ j : Int, lo ≤ j → j < hi' → EVb X scope (up (.int j) (wipeG Γ (own.map (·.2)))) M1 elt (f j) M1) : EN X Γ M (.ListComp elt [⟨tg, iter, [c], 0⟩] scope pos) (((rgI lo hi').filter q).map f) M1 := by
  have := en_filt0 (elt := elt) (c := c) (pos := pos) (fun i => f (lo + (i : Int))) (fun i => q (lo + (i : Int))) hi htg ok hc hN hs hn hG (fun i h => hsh _) (fun i h => ht _ (by omega) (by omega)) fun i h _ => he _ (by omega) (by omega)
  unfold rgI
  rw [List.filter_map, List.map_map]
  exact this
end
end Sy

set_option Elab.async false
set_option linter.all false
set_option maxRecDepth 100000
set_option maxHeartbeats 4000000
/-! Sy15: more shapes -/
namespace Sy
open PySem PySem.Spec PyProof.Rows L2
section
variable {X : Cx} {scope : Scope} {Γ : Gam} {M M' M1 M2 M3 : MS} {e a b c elt iter tg : Expr} {rest : List Stmt} {g ga gb gc : D} {ds es : List D} {pos p : Pos} {P : Post}
theorem ss_augI {i : Nat} {x : Str} {px : Pos} {m n : Int} (hN : X.N.Nodup) (hi : X.N[i]? = some x) (hx0 : Γ[i]? = some (some (.int m))) (he : EV X Γ M e (.int n) M') (hx : Loc X.env.scope x) (hf : X.fn x = true ∨ X.env.scope.names.lookup x = some .local)
    (h : SS X (Γ.set i (some (.int (m + n)))) M' rest P) : SS X Γ M (.AugAssign (.Name x px) .Add e pos :: rest) P := ss_augAdd i hx0 he hN hi hx hf h
/-- parallel stores with the sides in a handier order -/
theorem ss_parI {i j : Nat} {x y : Str} {px py pt : Pos} {kt k2 pt2} (h1 : EV X Γ M a ga M1) (h2 : EV X Γ M1 b gb M2) (hN : X.N.Nodup) (hi : X.N[i]? = some x) (hj : X.N[j]? = some y) (hij : i ≠ j) (hc : X.calm = true)
    (hx : X.env.scope.names.lookup x = some .local) (hy : X.env.scope.names.lookup y = some .local)
    (hw : swappedStores [.Tuple [.Name x px, .Name y py] kt pt] (.Tuple [a, b] k2 pt2) X.env = pure (some [x, y]))
    (hs : swapsWithSole [.Tuple [.Name x px, .Name y py] kt pt] (.Tuple [a, b] k2 pt2) pos.line X.env = pure false)
    (e1 : starEach [a, b] X.env = (false, eval a X.env) :: starEach [b] X.env) (e2 : starEach [b] X.env = (false, eval b X.env) :: starEach [] X.env)
    (h : SS X ((Γ.set i (some ga)).set j (some gb)) M2 rest P) : SS X Γ M (.Assign [.Tuple [.Name x px, .Name y py] kt pt] (.Tuple [a, b] k2 pt2) pos :: rest) P := ss_par i j h1 h2 hc hN hi hj hij hx hy hw hs e1 e2 h
/-- an expression statement, then the rest -/
theorem ss_expr (he : EV X Γ M e g M') (hs : swapsWith e none pos.line X.env = pure false) (h : SS X Γ M' rest P) : SS X Γ M (.Expr e pos :: rest) P := ss_step (s1_expr he hs ⟨rfl, rfl⟩) h
/-- a, b = e -/
theorem ss_asg {Γ' : Gam} (he : EV X Γ M e g M') (hg : AS X Γ M' tg g Γ') (hs : swapsWithSole [tg] e pos.line X.env = pure false) (hw : swappedStores [tg] e X.env = pure none)
    (h1 : (assignEach [tg] X.env).map (·.2) = [assign tg X.env]) (h : SS X Γ' M' rest P) : SS X Γ M (.Assign [tg] e pos :: rest) P := ss_step (s1_asg he hg hs hw h1 ⟨rfl, rfl⟩) h
theorem en_mapR1 {hi' : Int} {Gd : MS → Prop} {own : List (Str × Nat)} {up : D → Gam → Gam} {shape : D → Prop} (f : Int → D) (hi : IT X Γ M tg iter hi'.toNat (ixD 0) Gd M1) (htg : TgOk X scope (own.map (·.2)) tg shape up) (ok : BlkOk X.N X.env.scope scope own) (hc : X.calm = true) (hN : X.N.Nodup) (hs : ∀ x, foldedSetIterable iter X.env x = pure x)
    (hn : hi'.toNat ≤ 100000) (hG : Gd M1) (hsh : ∀ j : Int, shape (.int j)) (he : ∀ j : Int, 0 ≤ j → j < hi' → EVb X scope (up (.int j) (wipeG Γ (own.map (·.2)))) M1 elt (f j) M1) : EN X Γ M (.ListComp elt [⟨tg, iter, [], 0⟩] scope pos) ((rgI 0 hi').map f) M1 :=
  en_mapR (lo := 0) (hi' := hi') f (by rw [Int.sub_zero]; exact hi) htg ok hc hN hs (by rw [Int.sub_zero]; exact hn) hG hsh he
theorem en_filtR1 {hi' : Int} {Gd : MS → Prop} {own : List (Str × Nat)} {up : D → Gam → Gam} {shape : D → Prop} (f : Int → D) (q : Int → Bool) (hi : IT X Γ M tg iter hi'.toNat (ixD 0) Gd M1) (htg : TgOk X scope (own.map (·.2)) tg shape up) (ok : BlkOk X.N X.env.scope scope own) (hc : X.calm = true) (hN : X.N.Nodup) (hs : ∀ x, foldedSetIterable iter X.env x = pure x)
    (hn : hi'.toNat ≤ 100000) (hG : Gd M1) (hsh : ∀ j : Int, shape (.int j)) (ht : ∀ j : Int, 0 ≤ j → j < hi' → ∀ s H C cl fp, ET (Bk X scope s H C cl fp) (up (.int j) (wipeG Γ (own.map (·.2)))) M1 c (q j) M1)
    (he : ∀ j : Int, 0 ≤ j → j < hi' → EVb X scope (up (.int j) (wipeG Γ (own.map (·.2)))) M1 elt (f j) M1) : EN X Γ M (.ListComp elt [⟨tg, iter, [c], 0⟩] scope pos) (((rgI 0 hi').filter q).map f) M1 :=
  en_filtR (lo := 0) (hi' := hi') f q (by rw [Int.sub_zero]; exact hi) htg ok hc hN hs (by rw [Int.sub_zero]; exact hn) hG hsh ht he
end
end Sy
namespace Sy
open PySem PySem.Spec PyProof.Rows L2
theorem keep_upd {M : MS} {q : Addr} {x : MO} (h : M q = none) : ∀ a o, M a = some o → updM M q x a = some o := fun a o e => by
  have : a ≠ q := fun z => by rw [z, h] at e; cases e
  rw [updM_ne this]; exact e
theorem updM_comm {M : MS} {p q : Addr} {x y : MO} (h : p ≠ q) : updM (updM M p x) q y = updM (updM M q y) p x := by
  funext a
  unfold updM
  by_cases h1 : a = q
  · by_cases h2 : a = p
    · exact absurd (h2.symm.trans h1) h
    · rw [if_pos h1, if_neg h2, if_pos h1]
  · rw [if_neg h1, if_neg h1]
theorem ne_of_upd {M : MS} {p q : Addr} {x : MO} (h : updM M q x p = none) : p ≠ q := fun z => by rw [z, updM_same] at h; cases h
theorem of_updN {M : MS} {p q : Addr} {x : MO} (h : updM M q x p = none) : M p = none := by rw [updM_ne (ne_of_upd h)] at h; exact h
end Sy
namespace Sy
open PySem PySem.Spec PyProof.Rows L2
theorem ev_toG {X : Cx} {Γ : Gam} {M M1 : MS} {e : Expr} {g ga : D} (h1 : g = ga) (h : EV X Γ M e g M1) : EV X Γ M e ga M1 := by subst h1; exact h
theorem et_toG {X : Cx} {Γ : Gam} {M M1 : MS} {e : Expr} {g ga : Bool} (h1 : g = ga) (h : ET X Γ M e g M1) : ET X Γ M e ga M1 := by subst h1; exact h
end Sy

set_option Elab.async false
set_option linter.all false
set_option maxRecDepth 100000
set_option maxHeartbeats 4000000
namespace Sy
open PySem PySem.Spec PyProof.Rows L2
section
variable {X : Cx} {M : MS} {ga gb : D}
theorem oc_inD {p : PyData} {qs : List PyData} (hu : X.A.units + 65 < cLine) (ha : PyOf M ga p) (hb : PyOf M gb (.list qs)) (sp : SeqAt.shaped p = true) (sq : SeqAt.shaped (.list qs) = true) : OpD X (compareOp .In) ga gb M (.bl (qs.any fun z => PyData.eqv z p)) M :=
  ⟨_, op_inD hu, fun F S H x y Q ok rx ry res => ⟨p, qs, ha.dp ok rx, hb.dp ok ry, sp, sq, res.scal ok rfl⟩⟩
theorem pyL_strs : ∀ ns : List Str, D.pyL (ns.map D.str) = some (ns.map PyData.str)
  | [] => rfl
  | n :: ns => by simp only [List.map_cons, D.pyL, D.py]; rw [pyL_strs ns]
theorem lay_strs : ∀ ns : List Str, (∀ n ∈ ns, PyData.strOk n = true) → PyData.canLayAll0 (ns.map PyData.str) = true
  | [], _ => by simp [PyData.canLayAll0]
  | n :: ns, h => by simp [PyData.canLayAll0, PyData.canLay0, h n (List.mem_cons_self ..), lay_strs ns fun m hm => h m (List.mem_cons_of_mem _ hm)]
theorem depth_strs : ∀ ns : List Str, PyData.depthAll (ns.map PyData.str) = 0
  | [] => by simp [PyData.depthAll]
  | n :: ns => by simp [PyData.depthAll, PyData.depth, depth_strs ns]
theorem shaped_strsT (ns : List Str) (h : ∀ n ∈ ns, PyData.strOk n = true) : SeqAt.shaped (.tuple (ns.map PyData.str)) = true := by
  simp [SeqAt.shaped, PyData.canLay0, PyData.depth, lay_strs ns h, depth_strs]
theorem eqvAll_strs : ∀ xs : List Str, PyData.eqvAll (xs.map PyData.str) (xs.map PyData.str) = true
  | [] => by simp [PyData.eqvAll]
  | x :: xs => by
    simp only [List.map_cons, PyData.eqvAll, PyData.eqv]
    rw [eqvAll_strs xs]
    simp
/-- the parts of a placement -/
theorem shaped_parts (z : Str) (hz : PyData.strOk z = true) (ns : List Int) : SeqAt.shaped (.list [.str z, .tuple (ns.map PyData.int)]) = true := by
  simp [SeqAt.shaped, PyData.canLay0, PyData.canLayAll0, PyData.depth, PyData.depthAll, lay_ints, depth_ints, hz]
end

/-! ### sorted(t), t of ints -/
section
variable {prog : Program} {w : World} {A : Around} {E : Value → Shared → Prop} {s : Shared}
theorem collect_tup {tt : Addr} {us : List Value} {Q : List Value → Shared → Prop} (ht : s.heap.IsTuple tt us.toArray) (hsz : us.length ≤ sizeLine)
    (h : Q us { s with heap := (s.heap.push (seqObj "list" #[] 0)).update s.heap.objs.size (Obj.mapSeq (· ++ us.toArray)) }) : wpAny (model prog w) A (collect (.ref tt)) Q E s := by
  obtain ⟨oo, hoo, hcc, nn, hdd⟩ := id ht
  unfold collect
  refine wpAny_bind (wpAny_runValue (codeAny_builtin entry_proto_collect' ?_))
  show wpAny _ _ (do again (.builtin "list.__iadd__" ⟨[← newList [], .ref tt], []⟩)) _ _ s
  refine wpAny_bind (wpAny_newList (wpAny_pure ⟨Code.quiet_builtin _ (by decide +kernel), codeAny_builtin entry_list_iadd' ?_⟩))
  show wpAny _ _ (Builtin.List.listExtendWith (.ref s.heap.objs.size) (.ref tt) (.ref s.heap.objs.size)) _ _ { s with heap := s.heap.push (seqObj "list" #[] 0) }
  unfold Builtin.List.listExtendWith
  have hoo' : (s.heap.push (seqObj "list" #[] 0)).get? tt = some oo := Heap.get?_push_of_some _ hoo
  refine wpAny_bind (wpAny_typeOf (T := "tuple") ⟨oo, hoo', hcc⟩ ?_)
  rw [if_pos (by simp)]
  refine wpAny_bind (listItems_at hoo' hdd ?_)
  refine wpAny_bind (listItems_at (xs := #[]) (n := 0) (Heap.get?_push_size _ rfl) rfl ?_)
  rw [if_neg (by simp)]
  refine wpAny_bind (listUpdate_at (xs := #[]) (n := 0) (Heap.get?_push_size _ rfl) rfl ?_ (Nat.zero_le _) (by show (#[] ++ us.toArray).size ≤ sizeLine + 1; simp only [Array.size_append, List.size_toArray, List.length_nil]; omega))
  refine wpAny_pure ?_
  show wpAny (model prog w) A (do
      let o ← load s.heap.objs.size
      match o.data with
      | .seq xs _ => pure xs.toList
      | _ => unsupported "internal:collect") Q E { s with heap := (s.heap.push (seqObj "list" #[] 0)).update s.heap.objs.size (Obj.mapSeq (· ++ us.toArray)) }
  refine wpAny_bind (wpAny_load (get?_update_seq (Heap.get?_push_size _ rfl) _) ?_)
  show wpAny _ _ (pure ((#[] : Array Value) ++ us.toArray).toList) Q E _
  rw [show ((#[] : Array Value) ++ us.toArray).toList = us by simp]
  exact wpAny_pure h
theorem sorted_ordT {tt : Addr} {us : List Value} {ltv : Value → Value → Bool} {Q : Value → Shared → Prop} (O : SrtO.Swo ltv) (ht : s.heap.IsTuple tt us.toArray) (hz : us.length ≤ sizeLine)
    (hS : 2 ≤ us.length → ∀ (h₁ : Heap) (a : Addr), h₁.get? a = some (seqObj "list" us.toArray 0) → (∀ b o, s.heap.get? b = some o → b ≠ a ∧ h₁.get? b = some o) → SrtO.SortableO prog w A.in1.in1 { s with heap := h₁ } a us ltv)
    (h : ∀ out : List Value, SrtO.Srtd ltv out → SrtO.Stb ltv out us → Q (.ref (s.heap.objs.size + 1)) { s with heap := sortedAll s.heap us out.toArray }) : wpAny (model prog w) A (call (.builtin "sorted") [.ref tt]) Q E s := by
  refine Calls.call_function_entry kind_sorted plain_sorted entry_sorted (args_sorted1 _) ?_
  unfold Builtin.«sorted»
  refine wpAny_bind (m := checkCount "sorted" 1 1 _) (wpAny_pure ?_)
  refine wpAny_bind (collect_tup ht hz ?_)
  refine wpAny_bind (wpAny_newList ?_ hz)
  have hsz : ((s.heap.push (seqObj "list" #[] 0)).update s.heap.objs.size (Obj.mapSeq (· ++ us.toArray))).objs.size = s.heap.objs.size + 1 := by
    rw [Heap.size_update, size_push']
  have hoL : (((s.heap.push (seqObj "list" #[] 0)).update s.heap.objs.size (Obj.mapSeq (· ++ us.toArray))).push (seqObj "list" us.toArray 0)).get? (s.heap.objs.size + 1) = some (seqObj "list" us.toArray 0) := by
    rw [← hsz]; exact Heap.get?_push_size _ rfl
  have keep : ∀ b o, s.heap.get? b = some o → b ≠ s.heap.objs.size + 1 ∧ (((s.heap.push (seqObj "list" #[] 0)).update s.heap.objs.size (Obj.mapSeq (· ++ us.toArray))).push (seqObj "list" us.toArray 0)).get? b = some o := fun b o q => by
    have hlt : b < s.heap.objs.size := Heap.lt_size q
    refine ⟨Nat.ne_of_lt (Nat.lt_succ_of_lt hlt), Heap.get?_push_of_some _ ?_⟩
    rw [Heap.get?_update_ne _ _ _ _ (Nat.ne_of_lt hlt)]
    exact Heap.get?_push_of_some _ q
  show wpAny _ _ _ _ _ { s with heap := ((s.heap.push (seqObj "list" #[] 0)).update s.heap.objs.size (Obj.mapSeq (· ++ us.toArray))).push (seqObj "list" us.toArray 0) }
  rw [hsz]
  refine wpAny_bind (wpAny_holding (wpAny_call_entry slot_list_sort ⟨_, hoL, rfl⟩ entry_list_sort (SrtO.list_sort_ord O hoL hz (fun h2 => hS h2 _ _ hoL keep) fun out hs hb => ⟨_, rfl, ?_⟩) (args_list_sort _)))
  exact wpAny_pure ⟨_, rfl, h out hs hb⟩
end
def rSortedIT (K : PySem.W.Frag) : List V → Hp → VK → Prop := fun vs H Q => ∃ (a : Addr) (ns : List Int), vs = [V.ref a] ∧ SqT K H a (ns.map V.int) ∧
  ∀ (ns' : List Int) (p : Addr), ns'.Perm ns → ns'.Pairwise (· ≤ ·) → H p = none → Q (.ref p) (upd H p (.lst (ns'.map V.int)))
theorem cr_sortedIT {X : Cx} : CallR X (.builtin "sorted") (rSortedIT X.K) := by
  intro pins s σ H vs us Q I r h
  obtain ⟨a, ns, rfl, hs, q⟩ := h
  obtain ⟨its, rv, hl, hz⟩ := I.tuple hs
  rw [Vals.ref1 r]
  have hi := rv.ints
  refine sorted_ordT SrtO.swo_int (show s.heap.IsTuple a its.toArray from hl) (by rw [← rv.length]; exact hz) (fun h2 h₁ a' _ _ => SrtO.ints_sortable hi h2) fun out h1 h2 => ?_
  obtain ⟨k1, k2, k3⟩ := SrtO.ints_out hi h1 h2
  obtain ⟨ep, he'⟩ := PyProof.Rows.sortedAll_at s.heap its out.toArray
  have hlen : ((out.map SrtO.iv).map V.int).length ≤ sizeLine := by
    rw [List.length_map, k2.length_eq]
    rw [List.length_map] at hz
    exact hz
  exact ⟨.ref _, upd H (s.heap.objs.size + 1) (.lst ((out.map SrtO.iv).map V.int)), I.laid (t' := s.toks) (fun _ _ => PyProof.Rows.sortedAll_old) (Nat.le_succ _) ⟨hlen, out, ep, vals_of_ints k1, he'⟩, rfl, q _ _ k2 k3 (I.hok.fresh (Nat.le_succ _))⟩
theorem sorted_unique : ∀ {l m : List Int}, l.Perm m → l.Pairwise (· ≤ ·) → m.Pairwise (· ≤ ·) → l = m := fun p h1 h2 => List.Perm.eq_of_pairwise (fun a b _ _ h h' => Int.le_antisymm h h') h1 h2 p
theorem cn_sortedT {X : Cx} {M : MS} {g : D} {ns ms : List Int} (hg : TupOf g (ns.map D.int)) (hp : ms.Perm ns) (hs : ms.Pairwise (· ≤ ·)) : CaN X (.builtin "sorted") [g] M (ms.map D.int) := ⟨_, cr_sortedIT, fun F S H xs Q ok r res => by
  obtain ⟨v, e, r1⟩ := repL1 r
  subst e
  obtain ⟨a, ys, e1, e2, e3⟩ := hg.get ok r1
  have e4 := e3.intsE
  subst e4
  refine ⟨a, ns, by rw [e1], e2, fun ns' p hp' hs' hpn => ?_⟩
  have e5 : ns' = ms := sorted_unique (hp'.trans hp.symm) hs' hs
  subst e5
  exact res p _ hpn (RepL.ints _)⟩
end Sy

set_option Elab.async false
set_option linter.all false
set_option maxRecDepth 100000
set_option maxHeartbeats 4000000
namespace Sy
open PySem PySem.Spec PyProof.Rows L2
theorem ev_to2 {X : Cx} {Γ : Gam} {M M1 : MS} {e : Expr} {g ga : D} (h : EV X Γ M e g M1) (h1 : g = ga) : EV X Γ M e ga M1 := by subst h1; exact h
theorem et_to2 {X : Cx} {Γ : Gam} {M M1 : MS} {e : Expr} {g ga : Bool} (h : ET X Γ M e g M1) (h1 : g = ga) : ET X Γ M e ga M1 := by subst h1; exact h
end Sy

set_option Elab.async false
set_option linter.all false
set_option maxRecDepth 100000
set_option maxHeartbeats 4000000
namespace Sy
open PySem PySem.Spec PyProof.Rows L2
theorem ev_toM {X : Cx} {Γ : Gam} {M M1 M2 : MS} {e : Expr} {g : D} (h : EV X Γ M e g M1) (h1 : M1 = M2) : EV X Γ M e g M2 := by subst h1; exact h
theorem updM_id {M : MS} {q : Addr} {o : MO} (h : M q = some o) : updM M q o = M := by
  funext a
  by_cases z : a = q
  · rw [z, updM_same, h]
  · rw [updM_ne z]
theorem updM_swap {M : MS} {p q : Addr} {x y z : MO} (h : p ≠ q) : updM (updM (updM M q x) p y) q z = updM (updM M q z) p y := by
  rw [updM_comm h, updM_updM]
theorem foldl_rep (c : Nat) : ∀ (m : Nat) (acc : Array Nat), ((List.replicate m #[c]).foldl (· ++ ·) acc).toList = acc.toList ++ List.replicate m c
  | 0, acc => by simp
  | m + 1, acc => by
    rw [List.replicate_succ, List.foldl_cons, foldl_rep c m]
    simp [List.replicate_succ]
theorem mul_chr (c : Nat) (n : Int) : (Txt.mul ⟨#[c]⟩ n).cps.toList = List.replicate n.toNat c := by
  unfold Txt.mul
  by_cases h1 : n < 1
  · rw [if_pos h1, show n.toNat = 0 by omega]; rfl
  · rw [if_neg h1]
    by_cases h2 : n = 1
    · subst h2; rfl
    · rw [if_neg (by simp [h2, Str.length])]
      show ((List.replicate n.toNat #[c]).foldl (· ++ ·) #[]).toList = _
      rw [foldl_rep]
      simp
end Sy

set_option Elab.async false
set_option linter.all false
set_option maxRecDepth 100000
set_option maxHeartbeats 0

namespace Pr
open PySem PySem.Spec PyProof.Rows L2 Sy
def top (i : Nat) : Stmt := PySem.Challenge.pw_agreedapart_k46_whole_vouching.main.body.getD i (.Pass ⟨0, 0, 0, 0⟩)
abbrev s_is_integer : Stmt := top 1
abbrev s_is_number : Stmt := top 2
abbrev s_is_sequence : Stmt := top 3
abbrev s_is_name : Stmt := top 4
abbrev s_is_ascending : Stmt := top 5
abbrev s_lot_of : Stmt := top 6
abbrev s_mistakes_to_break : Stmt := top 8
abbrev s_best_askers : Stmt := top 9
abbrev s_breaking : Stmt := top 10
abbrev s_is_breaking : Stmt := top 11
abbrev s_Town_init : Stmt := inClass (top 20) 0
abbrev s_is_word : Stmt := top 24
abbrev s_does_act : Stmt := top 25
abbrev s_behind_word : Stmt := top 26
abbrev s_Log_init : Stmt := inClass (top 27) 0
abbrev s_theres : Stmt := top 28
abbrev s_order_of : Stmt := top 32
abbrev s_placement_of : Stmt := top 35
abbrev s_Lots_init : Stmt := inClass (top 36) 0
abbrev s_first_of : Stmt := top 37
abbrev s_lot_by : Stmt := top 39
abbrev s_lots_of : Stmt := top 40
abbrev s_liars_in : Stmt := top 42
abbrev s_is_bearable : Stmt := top 43
abbrev s__law_well : Stmt := top 45
abbrev s__law_dip : Stmt := top 46
abbrev s__law_one : Stmt := top 47
abbrev s__law_mixed : Stmt := top 48
abbrev s__law_like : Stmt := top 49
abbrev s__law_names : Stmt := top 50
abbrev s__law_walked : Stmt := top 51
abbrev s__law_is_tale : Stmt := top 52
abbrev s__law_bent : Stmt := top 53
abbrev s__law_town_right : Stmt := top 54
abbrev s_law : Stmt := top 55
def d_is_integer : He.DefD := ⟨("is_integer", none), "is_integer", "is_integer", defArgs s_is_integer, defBody s_is_integer, defScope s_is_integer, [], []⟩
def d_is_number : He.DefD := ⟨("is_number", none), "is_number", "is_number", defArgs s_is_number, defBody s_is_number, defScope s_is_number, [.non], []⟩
def d_is_sequence : He.DefD := ⟨("is_sequence", none), "is_sequence", "is_sequence", defArgs s_is_sequence, defBody s_is_sequence, defScope s_is_sequence, [], []⟩
def d_is_name : He.DefD := ⟨("is_name", none), "is_name", "is_name", defArgs s_is_name, defBody s_is_name, defScope s_is_name, [], []⟩
def d_is_ascending : He.DefD := ⟨("is_ascending", none), "is_ascending", "is_ascending", defArgs s_is_ascending, defBody s_is_ascending, defScope s_is_ascending, [], []⟩
def d_lot_of : He.DefD := ⟨("lot_of", none), "lot_of", "lot_of", defArgs s_lot_of, defBody s_lot_of, defScope s_lot_of, [], []⟩
def d_mistakes_to_break : He.DefD := ⟨("mistakes_to_break", none), "mistakes_to_break", "mistakes_to_break", defArgs s_mistakes_to_break, defBody s_mistakes_to_break, defScope s_mistakes_to_break, [], []⟩
def d_best_askers : He.DefD := ⟨("best_askers", none), "best_askers", "best_askers", defArgs s_best_askers, defBody s_best_askers, defScope s_best_askers, [], []⟩
def d_breaking : He.DefD := ⟨("breaking", none), "breaking", "breaking", defArgs s_breaking, defBody s_breaking, defScope s_breaking, [], []⟩
def d_is_breaking : He.DefD := ⟨("is_breaking", none), "is_breaking", "is_breaking", defArgs s_is_breaking, defBody s_is_breaking, defScope s_is_breaking, [], []⟩
def d_Town_init : He.DefD := ⟨("Town", some "__init__"), "__init__", "Town.__init__", defArgs s_Town_init, defBody s_Town_init, defScope s_Town_init, [], []⟩
def d_is_word : He.DefD := ⟨("is_word", none), "is_word", "is_word", defArgs s_is_word, defBody s_is_word, defScope s_is_word, [], []⟩
def d_does_act : He.DefD := ⟨("does_act", none), "does_act", "does_act", defArgs s_does_act, defBody s_does_act, defScope s_does_act, [], []⟩
def d_behind_word : He.DefD := ⟨("behind_word", none), "behind_word", "behind_word", defArgs s_behind_word, defBody s_behind_word, defScope s_behind_word, [], []⟩
def d_Log_init : He.DefD := ⟨("Log", some "__init__"), "__init__", "Log.__init__", defArgs s_Log_init, defBody s_Log_init, defScope s_Log_init, [], []⟩
def d_theres : He.DefD := ⟨("theres", none), "theres", "theres", defArgs s_theres, defBody s_theres, defScope s_theres, [], []⟩
def d_order_of : He.DefD := ⟨("order_of", none), "order_of", "order_of", defArgs s_order_of, defBody s_order_of, defScope s_order_of, [], []⟩
def d_placement_of : He.DefD := ⟨("placement_of", none), "placement_of", "placement_of", defArgs s_placement_of, defBody s_placement_of, defScope s_placement_of, [], []⟩
def d_Lots_init : He.DefD := ⟨("Lots", some "__init__"), "__init__", "Lots.__init__", defArgs s_Lots_init, defBody s_Lots_init, defScope s_Lots_init, [], []⟩
def d_first_of : He.DefD := ⟨("first_of", none), "first_of", "first_of", defArgs s_first_of, defBody s_first_of, defScope s_first_of, [], []⟩
def d_lot_by : He.DefD := ⟨("lot_by", none), "lot_by", "lot_by", defArgs s_lot_by, defBody s_lot_by, defScope s_lot_by, [], []⟩
def d_lots_of : He.DefD := ⟨("lots_of", none), "lots_of", "lots_of", defArgs s_lots_of, defBody s_lots_of, defScope s_lots_of, [], []⟩
def d_liars_in : He.DefD := ⟨("liars_in", none), "liars_in", "liars_in", defArgs s_liars_in, defBody s_liars_in, defScope s_liars_in, [], []⟩
def d_is_bearable : He.DefD := ⟨("is_bearable", none), "is_bearable", "is_bearable", defArgs s_is_bearable, defBody s_is_bearable, defScope s_is_bearable, [], []⟩
def d__law_well : He.DefD := ⟨("_law_well", none), "_law_well", "_law_well", defArgs s__law_well, defBody s__law_well, defScope s__law_well, [], []⟩
def d__law_dip : He.DefD := ⟨("_law_dip", none), "_law_dip", "_law_dip", defArgs s__law_dip, defBody s__law_dip, defScope s__law_dip, [], []⟩
def d__law_one : He.DefD := ⟨("_law_one", none), "_law_one", "_law_one", defArgs s__law_one, defBody s__law_one, defScope s__law_one, [], []⟩
def d__law_mixed : He.DefD := ⟨("_law_mixed", none), "_law_mixed", "_law_mixed", defArgs s__law_mixed, defBody s__law_mixed, defScope s__law_mixed, [], []⟩
def d__law_like : He.DefD := ⟨("_law_like", none), "_law_like", "_law_like", defArgs s__law_like, defBody s__law_like, defScope s__law_like, [], []⟩
def d__law_names : He.DefD := ⟨("_law_names", none), "_law_names", "_law_names", defArgs s__law_names, defBody s__law_names, defScope s__law_names, [], []⟩
def d__law_walked : He.DefD := ⟨("_law_walked", none), "_law_walked", "_law_walked", defArgs s__law_walked, defBody s__law_walked, defScope s__law_walked, [], []⟩
def d__law_is_tale : He.DefD := ⟨("_law_is_tale", none), "_law_is_tale", "_law_is_tale", defArgs s__law_is_tale, defBody s__law_is_tale, defScope s__law_is_tale, [], []⟩
def d__law_bent : He.DefD := ⟨("_law_bent", none), "_law_bent", "_law_bent", defArgs s__law_bent, defBody s__law_bent, defScope s__law_bent, [], []⟩
def d__law_town_right : He.DefD := ⟨("_law_town_right", none), "_law_town_right", "_law_town_right", defArgs s__law_town_right, defBody s__law_town_right, defScope s__law_town_right, [], []⟩
def d_law : He.DefD := ⟨("law", none), "law", "law", defArgs s_law, defBody s_law, defScope s_law, [], []⟩
def fn : List He.DefD := ([d_is_integer, d_is_number, d_is_sequence, d_is_name, d_is_ascending, d_lot_of, d_mistakes_to_break, d_best_askers, d_breaking, d_is_breaking, d_Town_init, d_is_word, d_does_act, d_behind_word, d_Log_init, d_theres, d_order_of, d_placement_of, d_Lots_init, d_first_of, d_lot_by, d_lots_of, d_liars_in, d_is_bearable, d__law_well, d__law_dip, d__law_one, d__law_mixed, d__law_like, d__law_names, d__law_walked, d__law_is_tale, d__law_bent, d__law_town_right, d_law] : List He.DefD)
def fa : List He.Fa := ([.free "abs", .free "all", .free "bool", .free "enumerate", .free "int", .free "isinstance", .free "len", .free "list", .free "max", .free "min", .free "range", .free "set", .free "sorted", .free "str", .free "sum", .free "super", .free "tuple", .glo "is_integer", .glo "is_number", .glo "is_sequence", .glo "is_name", .glo "is_ascending", .glo "lot_of", .glo "mistakes_to_break", .glo "best_askers", .glo "breaking", .glo "is_breaking", .glo "is_word", .glo "does_act", .glo "behind_word", .glo "theres", .glo "order_of", .glo "placement_of", .glo "first_of", .glo "lot_by", .glo "lots_of", .glo "liars_in", .glo "is_bearable", .glo "_law_well", .glo "_law_dip"] : List He.Fa) ++ ([.glo "_law_one", .glo "_law_mixed", .glo "_law_like", .glo "_law_names", .glo "_law_walked", .glo "_law_is_tale", .glo "_law_bent", .glo "_law_town_right", .glo "law", .int "MOST_HOUSES" 24, .int "MOST_WORDS" 200, .int "MOST_SAID" 1000000000, .int "MOST_COPIES" 12, .int "MOST_ROWS" 200, .glo "Town", .cls "Town", .mkr "Town", .noat "Town" "names", .glo "Log", .cls "Log", .mkr "Log", .noat "Log" "town", .noat "Log" "begin", .noat "Log" "least", .noat "Log" "words", .glo "Lots", .cls "Lots", .mkr "Lots", .noat "Lots" "town", .noat "Lots" "k", .noat "Lots" "placement"] : List He.Fa)
def insB (K : PySem.W.Frag) (C : Addr) : Bool := He.eqO (PySem.W.findIn K (.ref C) "__class__") (some (some (.builtin "object.__class__"))) && (He.eqO (PySem.W.specialIn K (.builtin "object.__class__") "__get__") (some (some (.builtin "getset_descriptor.__get__"))) &&
  (decide (PySem.W.takesIn K (.builtin "object.__class__") = some true) && (decide (PySem.W.mroIn K C (.type "object") = some true) && decide (PySem.W.kitOne K (.ref C) (.ref C) = some true))))
theorem insB_ok {K : PySem.W.Frag} {C : Addr} (c : Cls K C) (h : insB K C = true) : InC K C := by
  obtain ⟨h1, h⟩ := He.ba h
  obtain ⟨h2, h⟩ := He.ba h
  obtain ⟨h3, h⟩ := He.ba h
  obtain ⟨h4, h5⟩ := He.ba h
  exact ⟨c, He.eqO_ok h1, He.eqO_ok h2, of_decide_eq_true h3, of_decide_eq_true h4, of_decide_eq_true h5⟩
def ex (K : PySem.W.Frag) : Bool := true && insB K (He.ga K "Town")
def names : List PySem.Str := ([("is_integer" : PySem.Str), ("is_number" : PySem.Str), ("is_sequence" : PySem.Str), ("is_name" : PySem.Str), ("is_ascending" : PySem.Str), ("lot_of" : PySem.Str), ("mistakes_to_break" : PySem.Str), ("best_askers" : PySem.Str), ("breaking" : PySem.Str), ("is_breaking" : PySem.Str), ("is_word" : PySem.Str), ("does_act" : PySem.Str), ("behind_word" : PySem.Str), ("theres" : PySem.Str), ("order_of" : PySem.Str), ("slots_of" : PySem.Str), ("rows_of" : PySem.Str), ("placement_of" : PySem.Str), ("first_of" : PySem.Str), ("taken_by" : PySem.Str), ("lot_by" : PySem.Str), ("lots_of" : PySem.Str), ("liars_in" : PySem.Str), ("is_bearable" : PySem.Str), ("_law_well" : PySem.Str), ("_law_dip" : PySem.Str), ("_law_one" : PySem.Str), ("_law_mixed" : PySem.Str), ("_law_like" : PySem.Str), ("_law_names" : PySem.Str), ("_law_walked" : PySem.Str), ("_law_is_tale" : PySem.Str), ("_law_bent" : PySem.Str), ("_law_town_right" : PySem.Str), ("AgreedError" : PySem.Str), ("Refused" : PySem.Str), ("InvalidTown" : PySem.Str), ("InvalidLog" : PySem.Str), ("InvalidLots" : PySem.Str), ("Town" : PySem.Str)] : List PySem.Str) ++ ([("Log" : PySem.Str), ("Lots" : PySem.Str), ("MOST_COPIES" : PySem.Str), ("MOST_HOUSES" : PySem.Str), ("MOST_ROWS" : PySem.Str), ("MOST_SAID" : PySem.Str), ("MOST_WORDS" : PySem.Str)] : List PySem.Str)
structure Tx (K : PySem.W.Frag) (mg : Str → Option Value) : Prop where
  n_abs : mg "abs" = none
  n_all : mg "all" = none
  n_bool : mg "bool" = none
  n_enumerate : mg "enumerate" = none
  n_int : mg "int" = none
  n_isinstance : mg "isinstance" = none
  n_len : mg "len" = none
  n_list : mg "list" = none
  n_max : mg "max" = none
  n_min : mg "min" = none
  n_range : mg "range" = none
  n_set : mg "set" = none
  n_sorted : mg "sorted" = none
  n_str : mg "str" = none
  n_sum : mg "sum" = none
  n_super : mg "super" = none
  n_tuple : mg "tuple" = none
  g_is_integer : mg "is_integer" = some (.ref (He.fAd K d_is_integer.at_))
  f_is_integer : ∃ fd, FunD K d_is_integer.name d_is_integer.qual (defArgs s_is_integer) (defBody s_is_integer) (defScope s_is_integer) (d_is_integer.dvs K) (d_is_integer.kws K) (He.fAd K d_is_integer.at_) fd
  g_is_number : mg "is_number" = some (.ref (He.fAd K d_is_number.at_))
  f_is_number : ∃ fd, FunD K d_is_number.name d_is_number.qual (defArgs s_is_number) (defBody s_is_number) (defScope s_is_number) (d_is_number.dvs K) (d_is_number.kws K) (He.fAd K d_is_number.at_) fd
  g_is_sequence : mg "is_sequence" = some (.ref (He.fAd K d_is_sequence.at_))
  f_is_sequence : ∃ fd, FunD K d_is_sequence.name d_is_sequence.qual (defArgs s_is_sequence) (defBody s_is_sequence) (defScope s_is_sequence) (d_is_sequence.dvs K) (d_is_sequence.kws K) (He.fAd K d_is_sequence.at_) fd
  g_is_name : mg "is_name" = some (.ref (He.fAd K d_is_name.at_))
  f_is_name : ∃ fd, FunD K d_is_name.name d_is_name.qual (defArgs s_is_name) (defBody s_is_name) (defScope s_is_name) (d_is_name.dvs K) (d_is_name.kws K) (He.fAd K d_is_name.at_) fd
  g_is_ascending : mg "is_ascending" = some (.ref (He.fAd K d_is_ascending.at_))
  f_is_ascending : ∃ fd, FunD K d_is_ascending.name d_is_ascending.qual (defArgs s_is_ascending) (defBody s_is_ascending) (defScope s_is_ascending) (d_is_ascending.dvs K) (d_is_ascending.kws K) (He.fAd K d_is_ascending.at_) fd
  g_lot_of : mg "lot_of" = some (.ref (He.fAd K d_lot_of.at_))
  f_lot_of : ∃ fd, FunD K d_lot_of.name d_lot_of.qual (defArgs s_lot_of) (defBody s_lot_of) (defScope s_lot_of) (d_lot_of.dvs K) (d_lot_of.kws K) (He.fAd K d_lot_of.at_) fd
  g_mistakes_to_break : mg "mistakes_to_break" = some (.ref (He.fAd K d_mistakes_to_break.at_))
  f_mistakes_to_break : ∃ fd, FunD K d_mistakes_to_break.name d_mistakes_to_break.qual (defArgs s_mistakes_to_break) (defBody s_mistakes_to_break) (defScope s_mistakes_to_break) (d_mistakes_to_break.dvs K) (d_mistakes_to_break.kws K) (He.fAd K d_mistakes_to_break.at_) fd
  g_best_askers : mg "best_askers" = some (.ref (He.fAd K d_best_askers.at_))
  f_best_askers : ∃ fd, FunD K d_best_askers.name d_best_askers.qual (defArgs s_best_askers) (defBody s_best_askers) (defScope s_best_askers) (d_best_askers.dvs K) (d_best_askers.kws K) (He.fAd K d_best_askers.at_) fd
  g_breaking : mg "breaking" = some (.ref (He.fAd K d_breaking.at_))
  f_breaking : ∃ fd, FunD K d_breaking.name d_breaking.qual (defArgs s_breaking) (defBody s_breaking) (defScope s_breaking) (d_breaking.dvs K) (d_breaking.kws K) (He.fAd K d_breaking.at_) fd
  g_is_breaking : mg "is_breaking" = some (.ref (He.fAd K d_is_breaking.at_))
  f_is_breaking : ∃ fd, FunD K d_is_breaking.name d_is_breaking.qual (defArgs s_is_breaking) (defBody s_is_breaking) (defScope s_is_breaking) (d_is_breaking.dvs K) (d_is_breaking.kws K) (He.fAd K d_is_breaking.at_) fd
  f_Town_init : ∃ fd, FunD K d_Town_init.name d_Town_init.qual (defArgs s_Town_init) (defBody s_Town_init) (defScope s_Town_init) (d_Town_init.dvs K) (d_Town_init.kws K) (He.fAd K d_Town_init.at_) fd
  g_is_word : mg "is_word" = some (.ref (He.fAd K d_is_word.at_))
  f_is_word : ∃ fd, FunD K d_is_word.name d_is_word.qual (defArgs s_is_word) (defBody s_is_word) (defScope s_is_word) (d_is_word.dvs K) (d_is_word.kws K) (He.fAd K d_is_word.at_) fd
  g_does_act : mg "does_act" = some (.ref (He.fAd K d_does_act.at_))
  f_does_act : ∃ fd, FunD K d_does_act.name d_does_act.qual (defArgs s_does_act) (defBody s_does_act) (defScope s_does_act) (d_does_act.dvs K) (d_does_act.kws K) (He.fAd K d_does_act.at_) fd
  g_behind_word : mg "behind_word" = some (.ref (He.fAd K d_behind_word.at_))
  f_behind_word : ∃ fd, FunD K d_behind_word.name d_behind_word.qual (defArgs s_behind_word) (defBody s_behind_word) (defScope s_behind_word) (d_behind_word.dvs K) (d_behind_word.kws K) (He.fAd K d_behind_word.at_) fd
  f_Log_init : ∃ fd, FunD K d_Log_init.name d_Log_init.qual (defArgs s_Log_init) (defBody s_Log_init) (defScope s_Log_init) (d_Log_init.dvs K) (d_Log_init.kws K) (He.fAd K d_Log_init.at_) fd
  g_theres : mg "theres" = some (.ref (He.fAd K d_theres.at_))
  f_theres : ∃ fd, FunD K d_theres.name d_theres.qual (defArgs s_theres) (defBody s_theres) (defScope s_theres) (d_theres.dvs K) (d_theres.kws K) (He.fAd K d_theres.at_) fd
  g_order_of : mg "order_of" = some (.ref (He.fAd K d_order_of.at_))
  f_order_of : ∃ fd, FunD K d_order_of.name d_order_of.qual (defArgs s_order_of) (defBody s_order_of) (defScope s_order_of) (d_order_of.dvs K) (d_order_of.kws K) (He.fAd K d_order_of.at_) fd
  g_placement_of : mg "placement_of" = some (.ref (He.fAd K d_placement_of.at_))
  f_placement_of : ∃ fd, FunD K d_placement_of.name d_placement_of.qual (defArgs s_placement_of) (defBody s_placement_of) (defScope s_placement_of) (d_placement_of.dvs K) (d_placement_of.kws K) (He.fAd K d_placement_of.at_) fd
  f_Lots_init : ∃ fd, FunD K d_Lots_init.name d_Lots_init.qual (defArgs s_Lots_init) (defBody s_Lots_init) (defScope s_Lots_init) (d_Lots_init.dvs K) (d_Lots_init.kws K) (He.fAd K d_Lots_init.at_) fd
  g_first_of : mg "first_of" = some (.ref (He.fAd K d_first_of.at_))
  f_first_of : ∃ fd, FunD K d_first_of.name d_first_of.qual (defArgs s_first_of) (defBody s_first_of) (defScope s_first_of) (d_first_of.dvs K) (d_first_of.kws K) (He.fAd K d_first_of.at_) fd
  g_lot_by : mg "lot_by" = some (.ref (He.fAd K d_lot_by.at_))
  f_lot_by : ∃ fd, FunD K d_lot_by.name d_lot_by.qual (defArgs s_lot_by) (defBody s_lot_by) (defScope s_lot_by) (d_lot_by.dvs K) (d_lot_by.kws K) (He.fAd K d_lot_by.at_) fd
  g_lots_of : mg "lots_of" = some (.ref (He.fAd K d_lots_of.at_))
  f_lots_of : ∃ fd, FunD K d_lots_of.name d_lots_of.qual (defArgs s_lots_of) (defBody s_lots_of) (defScope s_lots_of) (d_lots_of.dvs K) (d_lots_of.kws K) (He.fAd K d_lots_of.at_) fd
  g_liars_in : mg "liars_in" = some (.ref (He.fAd K d_liars_in.at_))
  f_liars_in : ∃ fd, FunD K d_liars_in.name d_liars_in.qual (defArgs s_liars_in) (defBody s_liars_in) (defScope s_liars_in) (d_liars_in.dvs K) (d_liars_in.kws K) (He.fAd K d_liars_in.at_) fd
  g_is_bearable : mg "is_bearable" = some (.ref (He.fAd K d_is_bearable.at_))
  f_is_bearable : ∃ fd, FunD K d_is_bearable.name d_is_bearable.qual (defArgs s_is_bearable) (defBody s_is_bearable) (defScope s_is_bearable) (d_is_bearable.dvs K) (d_is_bearable.kws K) (He.fAd K d_is_bearable.at_) fd
  g__law_well : mg "_law_well" = some (.ref (He.fAd K d__law_well.at_))
  f__law_well : ∃ fd, FunD K d__law_well.name d__law_well.qual (defArgs s__law_well) (defBody s__law_well) (defScope s__law_well) (d__law_well.dvs K) (d__law_well.kws K) (He.fAd K d__law_well.at_) fd
  g__law_dip : mg "_law_dip" = some (.ref (He.fAd K d__law_dip.at_))
  f__law_dip : ∃ fd, FunD K d__law_dip.name d__law_dip.qual (defArgs s__law_dip) (defBody s__law_dip) (defScope s__law_dip) (d__law_dip.dvs K) (d__law_dip.kws K) (He.fAd K d__law_dip.at_) fd
  g__law_one : mg "_law_one" = some (.ref (He.fAd K d__law_one.at_))
  f__law_one : ∃ fd, FunD K d__law_one.name d__law_one.qual (defArgs s__law_one) (defBody s__law_one) (defScope s__law_one) (d__law_one.dvs K) (d__law_one.kws K) (He.fAd K d__law_one.at_) fd
  g__law_mixed : mg "_law_mixed" = some (.ref (He.fAd K d__law_mixed.at_))
  f__law_mixed : ∃ fd, FunD K d__law_mixed.name d__law_mixed.qual (defArgs s__law_mixed) (defBody s__law_mixed) (defScope s__law_mixed) (d__law_mixed.dvs K) (d__law_mixed.kws K) (He.fAd K d__law_mixed.at_) fd
  g__law_like : mg "_law_like" = some (.ref (He.fAd K d__law_like.at_))
  f__law_like : ∃ fd, FunD K d__law_like.name d__law_like.qual (defArgs s__law_like) (defBody s__law_like) (defScope s__law_like) (d__law_like.dvs K) (d__law_like.kws K) (He.fAd K d__law_like.at_) fd
  g__law_names : mg "_law_names" = some (.ref (He.fAd K d__law_names.at_))
  f__law_names : ∃ fd, FunD K d__law_names.name d__law_names.qual (defArgs s__law_names) (defBody s__law_names) (defScope s__law_names) (d__law_names.dvs K) (d__law_names.kws K) (He.fAd K d__law_names.at_) fd
  g__law_walked : mg "_law_walked" = some (.ref (He.fAd K d__law_walked.at_))
  f__law_walked : ∃ fd, FunD K d__law_walked.name d__law_walked.qual (defArgs s__law_walked) (defBody s__law_walked) (defScope s__law_walked) (d__law_walked.dvs K) (d__law_walked.kws K) (He.fAd K d__law_walked.at_) fd
  g__law_is_tale : mg "_law_is_tale" = some (.ref (He.fAd K d__law_is_tale.at_))
  f__law_is_tale : ∃ fd, FunD K d__law_is_tale.name d__law_is_tale.qual (defArgs s__law_is_tale) (defBody s__law_is_tale) (defScope s__law_is_tale) (d__law_is_tale.dvs K) (d__law_is_tale.kws K) (He.fAd K d__law_is_tale.at_) fd
  g__law_bent : mg "_law_bent" = some (.ref (He.fAd K d__law_bent.at_))
  f__law_bent : ∃ fd, FunD K d__law_bent.name d__law_bent.qual (defArgs s__law_bent) (defBody s__law_bent) (defScope s__law_bent) (d__law_bent.dvs K) (d__law_bent.kws K) (He.fAd K d__law_bent.at_) fd
  g__law_town_right : mg "_law_town_right" = some (.ref (He.fAd K d__law_town_right.at_))
  f__law_town_right : ∃ fd, FunD K d__law_town_right.name d__law_town_right.qual (defArgs s__law_town_right) (defBody s__law_town_right) (defScope s__law_town_right) (d__law_town_right.dvs K) (d__law_town_right.kws K) (He.fAd K d__law_town_right.at_) fd
  g_law : mg "law" = some (.ref (He.fAd K d_law.at_))
  f_law : ∃ fd, FunD K d_law.name d_law.qual (defArgs s_law) (defBody s_law) (defScope s_law) (d_law.dvs K) (d_law.kws K) (He.fAd K d_law.at_) fd
  k_MOST_HOUSES : ∃ t, mg "MOST_HOUSES" = some (.int 24 t)
  k_MOST_WORDS : ∃ t, mg "MOST_WORDS" = some (.int 200 t)
  k_MOST_SAID : ∃ t, mg "MOST_SAID" = some (.int 1000000000 t)
  k_MOST_COPIES : ∃ t, mg "MOST_COPIES" = some (.int 12 t)
  k_MOST_ROWS : ∃ t, mg "MOST_ROWS" = some (.int 200 t)
  g_Town : mg "Town" = some (.ref (He.ga K "Town"))
  c_Town : Cls K (He.ga K "Town")
  m_Town : Mk K (He.ga K "Town") (He.fAd K d_Town_init.at_)
  a_Town_names : NoAttr K (He.ga K "Town") "names"
  g_Log : mg "Log" = some (.ref (He.ga K "Log"))
  c_Log : Cls K (He.ga K "Log")
  m_Log : Mk K (He.ga K "Log") (He.fAd K d_Log_init.at_)
  a_Log_town : NoAttr K (He.ga K "Log") "town"
  a_Log_begin : NoAttr K (He.ga K "Log") "begin"
  a_Log_least : NoAttr K (He.ga K "Log") "least"
  a_Log_words : NoAttr K (He.ga K "Log") "words"
  g_Lots : mg "Lots" = some (.ref (He.ga K "Lots"))
  c_Lots : Cls K (He.ga K "Lots")
  m_Lots : Mk K (He.ga K "Lots") (He.fAd K d_Lots_init.at_)
  a_Lots_town : NoAttr K (He.ga K "Lots") "town"
  a_Lots_k : NoAttr K (He.ga K "Lots") "k"
  a_Lots_placement : NoAttr K (He.ga K "Lots") "placement"
  i_Town : InC K (He.ga K "Town")
theorem tx_of {K : PySem.W.Frag} {mg : Str → Option Value} {h : Heap} (X : K.In h) (G : h.Ns mainGlobals mg) (c : He.SaysD fa fn K) (e : ex K = true) : Tx K mg := by
  obtain ⟨e, e0⟩ := He.ba e
  exact ⟨He.free_ok X G (c.fact 0 rfl),
    He.free_ok X G (c.fact 1 rfl),
    He.free_ok X G (c.fact 2 rfl),
    He.free_ok X G (c.fact 3 rfl),
    He.free_ok X G (c.fact 4 rfl),
    He.free_ok X G (c.fact 5 rfl),
    He.free_ok X G (c.fact 6 rfl),
    He.free_ok X G (c.fact 7 rfl),
    He.free_ok X G (c.fact 8 rfl),
    He.free_ok X G (c.fact 9 rfl),
    He.free_ok X G (c.fact 10 rfl),
    He.free_ok X G (c.fact 11 rfl),
    He.free_ok X G (c.fact 12 rfl),
    He.free_ok X G (c.fact 13 rfl),
    He.free_ok X G (c.fact 14 rfl),
    He.free_ok X G (c.fact 15 rfl),
    He.free_ok X G (c.fact 16 rfl),
    He.glo_ok X G (c.fact 17 rfl),
    c.def_ 0 (d := d_is_integer) rfl,
    He.glo_ok X G (c.fact 18 rfl),
    c.def_ 1 (d := d_is_number) rfl,
    He.glo_ok X G (c.fact 19 rfl),
    c.def_ 2 (d := d_is_sequence) rfl,
    He.glo_ok X G (c.fact 20 rfl),
    c.def_ 3 (d := d_is_name) rfl,
    He.glo_ok X G (c.fact 21 rfl),
    c.def_ 4 (d := d_is_ascending) rfl,
    He.glo_ok X G (c.fact 22 rfl),
    c.def_ 5 (d := d_lot_of) rfl,
    He.glo_ok X G (c.fact 23 rfl),
    c.def_ 6 (d := d_mistakes_to_break) rfl,
    He.glo_ok X G (c.fact 24 rfl),
    c.def_ 7 (d := d_best_askers) rfl,
    He.glo_ok X G (c.fact 25 rfl),
    c.def_ 8 (d := d_breaking) rfl,
    He.glo_ok X G (c.fact 26 rfl),
    c.def_ 9 (d := d_is_breaking) rfl,
    c.def_ 10 (d := d_Town_init) rfl,
    He.glo_ok X G (c.fact 27 rfl),
    c.def_ 11 (d := d_is_word) rfl,
    He.glo_ok X G (c.fact 28 rfl),
    c.def_ 12 (d := d_does_act) rfl,
    He.glo_ok X G (c.fact 29 rfl),
    c.def_ 13 (d := d_behind_word) rfl,
    c.def_ 14 (d := d_Log_init) rfl,
    He.glo_ok X G (c.fact 30 rfl),
    c.def_ 15 (d := d_theres) rfl,
    He.glo_ok X G (c.fact 31 rfl),
    c.def_ 16 (d := d_order_of) rfl,
    He.glo_ok X G (c.fact 32 rfl),
    c.def_ 17 (d := d_placement_of) rfl,
    c.def_ 18 (d := d_Lots_init) rfl,
    He.glo_ok X G (c.fact 33 rfl),
    c.def_ 19 (d := d_first_of) rfl,
    He.glo_ok X G (c.fact 34 rfl),
    c.def_ 20 (d := d_lot_by) rfl,
    He.glo_ok X G (c.fact 35 rfl),
    c.def_ 21 (d := d_lots_of) rfl,
    He.glo_ok X G (c.fact 36 rfl),
    c.def_ 22 (d := d_liars_in) rfl,
    He.glo_ok X G (c.fact 37 rfl),
    c.def_ 23 (d := d_is_bearable) rfl,
    He.glo_ok X G (c.fact 38 rfl),
    c.def_ 24 (d := d__law_well) rfl,
    He.glo_ok X G (c.fact 39 rfl),
    c.def_ 25 (d := d__law_dip) rfl,
    He.glo_ok X G (c.fact 40 rfl),
    c.def_ 26 (d := d__law_one) rfl,
    He.glo_ok X G (c.fact 41 rfl),
    c.def_ 27 (d := d__law_mixed) rfl,
    He.glo_ok X G (c.fact 42 rfl),
    c.def_ 28 (d := d__law_like) rfl,
    He.glo_ok X G (c.fact 43 rfl),
    c.def_ 29 (d := d__law_names) rfl,
    He.glo_ok X G (c.fact 44 rfl),
    c.def_ 30 (d := d__law_walked) rfl,
    He.glo_ok X G (c.fact 45 rfl),
    c.def_ 31 (d := d__law_is_tale) rfl,
    He.glo_ok X G (c.fact 46 rfl),
    c.def_ 32 (d := d__law_bent) rfl,
    He.glo_ok X G (c.fact 47 rfl),
    c.def_ 33 (d := d__law_town_right) rfl,
    He.glo_ok X G (c.fact 48 rfl),
    c.def_ 34 (d := d_law) rfl,
    He.int_ok X G (c.fact 49 rfl),
    He.int_ok X G (c.fact 50 rfl),
    He.int_ok X G (c.fact 51 rfl),
    He.int_ok X G (c.fact 52 rfl),
    He.int_ok X G (c.fact 53 rfl),
    He.glo_ok X G (c.fact 54 rfl),
    He.cls_ok (c.fact 55 rfl),
    He.mkr_ok (c.fact 56 rfl),
    He.noat_ok (c.fact 57 rfl),
    He.glo_ok X G (c.fact 58 rfl),
    He.cls_ok (c.fact 59 rfl),
    He.mkr_ok (c.fact 60 rfl),
    He.noat_ok (c.fact 61 rfl),
    He.noat_ok (c.fact 62 rfl),
    He.noat_ok (c.fact 63 rfl),
    He.noat_ok (c.fact 64 rfl),
    He.glo_ok X G (c.fact 65 rfl),
    He.cls_ok (c.fact 66 rfl),
    He.mkr_ok (c.fact 67 rfl),
    He.noat_ok (c.fact 68 rfl),
    He.noat_ok (c.fact 69 rfl),
    He.noat_ok (c.fact 70 rfl),
    insB_ok (He.cls_ok (c.fact 55 rfl)) e0⟩
end Pr

set_option Elab.async false
set_option linter.all false
set_option maxRecDepth 100000
set_option maxHeartbeats 4000000
open PySem PySem.Spec PyProof.Rows L2 Sy
namespace Pr
theorem sc_is_integer : FnScope ["value"] ["value"] (defScope s_is_integer) := ⟨rfl, rfl, rfl, by decide +kernel, rfl, by decide +kernel, by decide +kernel⟩
theorem sc_is_number : FnScope ["value", "most"] ["value", "most"] (defScope s_is_number) := ⟨rfl, rfl, rfl, by decide +kernel, rfl, by decide +kernel, by decide +kernel⟩
theorem sc_is_sequence : FnScope ["value"] ["value"] (defScope s_is_sequence) := ⟨rfl, rfl, rfl, by decide +kernel, rfl, by decide +kernel, by decide +kernel⟩
theorem sc_is_name : FnScope ["value", "sign"] ["value"] (defScope s_is_name) := ⟨rfl, rfl, rfl, by decide +kernel, rfl, by decide +kernel, by decide +kernel⟩
theorem sc_is_ascending : FnScope ["row", "at"] ["row"] (defScope s_is_ascending) := ⟨rfl, rfl, rfl, by decide +kernel, rfl, by decide +kernel, by decide +kernel⟩
theorem sc_lot_of : FnScope ["value", "many", "one"] ["value", "many"] (defScope s_lot_of) := ⟨rfl, rfl, rfl, by decide +kernel, rfl, by decide +kernel, by decide +kernel⟩
theorem sc_mistakes_to_break : FnScope ["z", "f", "s", "liars"] ["z", "f", "s"] (defScope s_mistakes_to_break) := ⟨rfl, rfl, rfl, by decide +kernel, rfl, by decide +kernel, by decide +kernel⟩
theorem sc_best_askers : FnScope ["k", "f"] ["k", "f"] (defScope s_best_askers) := ⟨rfl, rfl, rfl, by decide +kernel, rfl, by decide +kernel, by decide +kernel⟩
theorem sc_breaking : FnScope ["z", "f", "s", "liars"] ["z", "f", "s"] (defScope s_breaking) := ⟨rfl, rfl, rfl, by decide +kernel, rfl, by decide +kernel, by decide +kernel⟩
theorem sc_is_breaking : FnScope ["k", "z", "f", "s", "most", "value", "made", "place", "row", "one"] ["k", "z", "f", "s", "most", "value"] (defScope s_is_breaking) := ⟨rfl, rfl, rfl, by decide +kernel, rfl, by decide +kernel, by decide +kernel⟩
theorem sc_Town_init : FnScope ["self", "names", "place", "name"] ["self", "names"] (defScope s_Town_init) := ⟨rfl, rfl, rfl, by decide +kernel, rfl, by decide +kernel, by decide +kernel⟩
theorem sc_is_word : FnScope ["town", "value"] ["town", "value"] (defScope s_is_word) := ⟨rfl, rfl, rfl, by decide +kernel, rfl, by decide +kernel, by decide +kernel⟩
theorem sc_does_act : FnScope ["there", "least", "word"] ["there", "least", "word"] (defScope s_does_act) := ⟨rfl, rfl, rfl, by decide +kernel, rfl, by decide +kernel, by decide +kernel⟩
theorem sc_behind_word : FnScope ["there", "least", "word", "house"] ["there", "least", "word"] (defScope s_behind_word) := ⟨rfl, rfl, rfl, by decide +kernel, rfl, by decide +kernel, by decide +kernel⟩
theorem sc_Log_init : FnScope ["self", "town", "begin", "least", "words", "lot", "place", "word"] ["self", "town", "begin", "least", "words"] (defScope s_Log_init) := ⟨rfl, rfl, rfl, by decide +kernel, rfl, by decide +kernel, by decide +kernel⟩
theorem sc_theres : FnScope ["log", "found", "word"] ["log"] (defScope s_theres) := ⟨rfl, rfl, rfl, by decide +kernel, rfl, by decide +kernel, by decide +kernel⟩
theorem sc_order_of : FnScope ["value", "many", "one"] ["value", "many"] (defScope s_order_of) := ⟨rfl, rfl, rfl, by decide +kernel, rfl, by decide +kernel, by decide +kernel⟩
theorem sc_placement_of : FnScope ["value", "k", "many", "parts"] ["value", "k", "many"] (defScope s_placement_of) := ⟨rfl, rfl, rfl, by decide +kernel, rfl, by decide +kernel, by decide +kernel⟩
theorem sc_Lots_init : FnScope ["self", "town", "k", "placement", "many", "found"] ["self", "town", "k", "placement"] (defScope s_Lots_init) := ⟨rfl, rfl, rfl, by decide +kernel, rfl, by decide +kernel, by decide +kernel⟩
theorem sc_first_of : FnScope ["order", "k", "there", "house"] ["order", "k", "there"] (defScope s_first_of) := ⟨rfl, rfl, rfl, by decide +kernel, rfl, by decide +kernel, by decide +kernel⟩
theorem sc_lot_by : FnScope ["lots", "there", "word", "row"] ["lots", "there"] (defScope s_lot_by) := ⟨rfl, rfl, rfl, by decide +kernel, rfl, by decide +kernel, by decide +kernel⟩
theorem sc_lots_of : FnScope ["lots", "log", "there"] ["lots", "log"] (defScope s_lots_of) := ⟨rfl, rfl, rfl, by decide +kernel, rfl, by decide +kernel, by decide +kernel⟩
theorem sc_liars_in : FnScope ["lot", "liars", "house"] ["lot", "liars"] (defScope s_liars_in) := ⟨rfl, rfl, rfl, by decide +kernel, rfl, by decide +kernel, by decide +kernel⟩
theorem sc_is_bearable : FnScope ["lots", "log", "liars", "f", "lot"] ["lots", "log", "liars", "f"] (defScope s_is_bearable) := ⟨rfl, rfl, rfl, by decide +kernel, rfl, by decide +kernel, by decide +kernel⟩
theorem sc__law_well : FnScope ["script", "k", "cell"] ["script", "k"] (defScope s__law_well) := ⟨rfl, rfl, rfl, by decide +kernel, rfl, by decide +kernel, by decide +kernel⟩
theorem sc__law_dip : FnScope ["well", "many", "digit", "raw"] ["well", "many"] (defScope s__law_dip) := ⟨rfl, rfl, rfl, by decide +kernel, rfl, by decide +kernel, by decide +kernel⟩
theorem sc__law_one : FnScope ["well", "some"] ["well", "some"] (defScope s__law_one) := ⟨rfl, rfl, rfl, by decide +kernel, rfl, by decide +kernel, by decide +kernel⟩
theorem sc__law_mixed : FnScope ["well", "some", "left", "found"] ["well", "some"] (defScope s__law_mixed) := ⟨rfl, rfl, rfl, by decide +kernel, rfl, by decide +kernel, by decide +kernel⟩
theorem sc__law_like : FnScope ["told", "due", "at"] ["told", "due"] (defScope s__law_like) := ⟨rfl, rfl, rfl, by decide +kernel, rfl, by decide +kernel, by decide +kernel⟩
theorem sc__law_names : FnScope ["well", "many", "signs", "found", "sign", "front", "k", "code"] ["well", "many"] (defScope s__law_names) := ⟨rfl, rfl, rfl, by decide +kernel, rfl, by decide +kernel, by decide +kernel⟩
theorem sc__law_walked : FnScope ["k", "z", "f", "s", "made", "liars", "ways", "asking", "honest"] ["k", "z", "f", "s"] (defScope s__law_walked) := ⟨rfl, rfl, rfl, by decide +kernel, rfl, by decide +kernel, by decide +kernel⟩
theorem sc__law_is_tale : FnScope ["k", "z", "f", "s", "most", "value", "made", "at", "liars", "honest", "one"] ["k", "z", "f", "s", "most", "value"] (defScope s__law_is_tale) := ⟨rfl, rfl, rfl, by decide +kernel, rfl, by decide +kernel, by decide +kernel⟩
theorem sc__law_bent : FnScope ["well", "tale", "at", "liars", "honest", "row"] ["well", "tale"] (defScope s__law_bent) := ⟨rfl, rfl, rfl, by decide +kernel, rfl, by decide +kernel, by decide +kernel⟩
theorem sc__law_town_right : FnScope ["well", "k", "z", "f", "many", "town", "lots", "begin", "liars", "words", "cut", "log", "x"] ["well", "k", "z", "f"] (defScope s__law_town_right) := ⟨rfl, rfl, rfl, by decide +kernel, rfl, by decide +kernel, by decide +kernel⟩
theorem sc_law : FnScope ["script", "turn", "well", "k", "f", "s", "z", "due", "tale", "number", "value", "most", "liars"] ["script"] (defScope s_law) := ⟨rfl, rfl, rfl, by decide +kernel, rfl, by decide +kernel, by decide +kernel⟩
end Pr

set_option Elab.async false
set_option linter.all false
set_option maxRecDepth 100000
set_option maxHeartbeats 4000000
open PySem PySem.Spec PyProof.Rows L2 Sy
local macro_rules | `(tactic| walk_at "rf") => `(tactic| first
  | rfl | exact Or.inl rfl | exact Or.inr rfl | exact Or.inr (Or.inl rfl) | exact Or.inr (Or.inr rfl) | decide | assumption | (intro _; rfl) | (intros; rfl))
local macro_rules | `(tactic| walk_at "num") => `(tactic| first | omega | (refine ⟨?_, ?_⟩ <;> omega) | (refine ⟨?_, ?_, ?_⟩ <;> omega) | decide)
local macro_rules | `(tactic| walk_at "mm") => `(tactic| first | rfl | assumption | exact updM_same | (rw [updM_ne (by assumption)]; walk_at "mm") | (rw [updM_ne (Ne.symm (by assumption))]; walk_at "mm"))
local macro_rules | `(tactic| walk_at "lst") => `(tactic| first
  | exact Or.inl rfl | exact Or.inr (Or.inl rfl) | exact Or.inr (Or.inr ⟨_, rfl, by walk_at "mm"⟩) | assumption)
local macro_rules | `(tactic| walk_at "lstT") => `(tactic| first | exact Or.inl rfl | exact Or.inr ⟨_, rfl, by walk_at "mm"⟩ | assumption)
local macro_rules | `(tactic| walk_at "seq") => `(tactic| first
  | exact Or.inl (Or.inl rfl) | exact Or.inr (Or.inl rfl) | exact Or.inl (Or.inr (Or.inl rfl)) | exact Or.inr (Or.inr rfl) | exact Or.inl (Or.inr (Or.inr ⟨_, rfl, by walk_at "mm"⟩)) | assumption | exact Or.inl (by assumption) | exact Or.inr (by assumption))
local macro_rules | `(tactic| walk_at "bin") => `(tactic| first
  | exact od_add | exact od_sub | exact od_mulL (by walk_at "num") | exact od_mulR (by walk_at "num") | exact od_mod (by walk_at "num") | exact od_fdiv (by walk_at "num") | exact od_pow (by walk_at "num")
  | exact od_addT (by first | (simp; done) | (simp; omega) | omega) | exact od_addS (by first | assumption | omega) | exact od_mulS (by omega) (by omega) (by first | assumption | decide))
local macro_rules | `(tactic| walk_at "cmp") => `(tactic| first
  | exact oc_lt | exact oc_le | exact oc_gt | exact oc_ge | exact oc_eq | exact oc_ne | exact oc_eqS | exact oc_neS | exact oc_eqB | exact oc_neB | exact oc_ltS | exact oc_leS
  | exact oc_is (by intro w z; cases z) | exact oc_isnot (by intro w z; cases z) | exact oc_is (by assumption) | exact oc_isnot (by assumption) | exact oc_inI (by walk_at "seq") | exact oc_notinI (by walk_at "seq")
  | exact oc_in (by walk_at "seq") rfl (by first | rfl | decide | assumption) | exact oc_notin (by walk_at "seq") rfl (by first | rfl | decide | assumption))
local macro_rules | `(tactic| walk_at "kn") => `(tactic| first | rfl | assumption)
local macro_rules | `(tactic| walk_at "isi") => `(tactic| first
  | exact cd_isInt (by walk_at "kn") | exact cd_isBool (by walk_at "kn") | exact cd_isStr (by walk_at "kn") | exact cd_isTup (by walk_at "kn") | exact cd_isSeq (by walk_at "kn") | exact cd_isiO (by walk_at "own") (by first | exact Or.inl rfl | assumption))
local macro_rules | `(tactic| walk_at "mark") => `(tactic| first | exact nomark _ | with_unfolding_all rfl)
local macro_rules | `(tactic| walk_at "ev") => `(tactic| first
  | exact ev_int | exact ev_str | exact ev_non | exact ev_bl
  | exact ev_nm rfl rfl (by walk_at "rf") (by decide) (by decide)
  | (apply ev_bin; (walk_at "ev"); (walk_at "ev"); (walk_at "bin"))
  | (apply ev_cmp; (walk_at "ev"); (walk_at "ev"); (walk_at "cmp"); (walk_at "mark"))
  | (apply ev_not; (walk_at "ev"))
  | (apply ev_neg; (walk_at "ev"))
  | (apply ev_tup; (walk_at "ea"); (simp; done))
  | (apply ev_one; (walk_at "ev"))
  | (apply ev_andB; (walk_at "ev"); (intro _; walk_at "ev"))
  | (apply ev_orB; (walk_at "ev"); (intro _; walk_at "ev"))
  | (apply ev_chain; (walk_at "ev"); (walk_at "ev"); (walk_at "cmp"); (intro _; walk_at "ev"); (intro _; walk_at "cmp"); (walk_at "mark"))
  | walk_at "ix" | walk_at "callx" | walk_at "namex" | walk_at "fld"
  | (apply ev_of_new; walk_at "en"))
local macro_rules | `(tactic| walk_at "ix") => `(tactic| (apply ev_ix; (walk_at "ev"); (walk_at "ev"); (walk_at "at"); exact (fun _ _ => rfl)))
local macro_rules | `(tactic| walk_at "atn") => `(tactic| first | exact atI_of (n := 0) rfl rfl | exact atI_of (n := 1) rfl rfl | exact atI_of (n := 2) rfl rfl | exact atI_of (n := 3) rfl rfl | assumption | exact atI_of (by assumption) rfl | exact atI_of (by assumption) (by omega) | exact atI_last _ _)
local macro_rules | `(tactic| walk_at "at") => `(tactic| first
  | exact oi_tup (Or.inl rfl) (by walk_at "atn") | exact oi_lst (by walk_at "lst") (by walk_at "atn") | exact oi_str (by first | assumption | decide) (by walk_at "atn"))
local macro_rules | `(tactic| walk_at "namex") => `(tactic| first
  | exact ev_tyint (Pr.Tx.n_int (by assumption)) rfl | exact ev_tybool (Pr.Tx.n_bool (by assumption)) rfl | exact ev_tystr (Pr.Tx.n_str (by assumption)) rfl | exact ev_tytuple (Pr.Tx.n_tuple (by assumption)) rfl | exact ev_tylist (Pr.Tx.n_list (by assumption)) rfl
  | walk_at "globx")
local macro_rules | `(tactic| walk_at "callx") => `(tactic| first
  | (apply ev_isinstance; (walk_at "ea"); (walk_at "isi"); exact (Pr.Tx.n_isinstance (by assumption)); rfl; rfl; rfl)
  | (apply ev_len; (walk_at "ea"); (first | exact cd_len (by walk_at "seq") | exact cd_lenS (by first | assumption | decide | omega)); exact (Pr.Tx.n_len (by assumption)); rfl; rfl; rfl)
  | (apply ev_abs; (walk_at "ea"); exact cd_abs; exact (Pr.Tx.n_abs (by assumption)); rfl; rfl; rfl)
  | (apply ev_Tint; (walk_at "ea"); (first | exact cd_int | exact cd_intB); exact (Pr.Tx.n_int (by assumption)); rfl; rfl; rfl)
  | (apply ev_min; (walk_at "ea"); (first | exact cd_min2 rfl | walk_at "minL"); exact (Pr.Tx.n_min (by assumption)); rfl; rfl; rfl)
  | (apply ev_max; (walk_at "ea"); (first | exact cd_max2 rfl | walk_at "maxL"); exact (Pr.Tx.n_max (by assumption)); rfl; rfl; rfl)
  | (apply ev_sum; (walk_at "ea"); exact cd_sum rfl (by walk_at "lst"); exact (Pr.Tx.n_sum (by assumption)); rfl; rfl; rfl)
  | (apply ev_all; (walk_at "ea"); exact cd_all rfl (by walk_at "lst"); exact (Pr.Tx.n_all (by assumption)); rfl; rfl; rfl)
  | (apply ev_any; (walk_at "ea"); exact cd_any rfl (by walk_at "lst"); exact (Pr.Tx.n_any (by assumption)); rfl; rfl; rfl)
  | (apply ev_Ttuple; (walk_at "ea"); (first | exact cd_tupleT | exact cd_tupleL (by walk_at "lst")); exact (Pr.Tx.n_tuple (by assumption)); rfl; rfl; rfl)
  | (apply ev_Tstr; (walk_at "ea"); exact cd_strI (by assumption); exact (Pr.Tx.n_str (by assumption)); rfl; rfl; rfl)
  | walk_at "fnx")
local macro_rules | `(tactic| walk_at "en") => `(tactic| first
  | (apply en_lst; (walk_at "ea"); (simp; done))
  | (apply en_Tlist; (walk_at "ea"); exact cn_list (by walk_at "seq"); exact (Pr.Tx.n_list (by assumption)); rfl; rfl; rfl)
  | (apply en_bin; (walk_at "ev"); (walk_at "ev"); (first | exact on_addL (by walk_at "lstT") (by walk_at "lstT") (by first | (simp; done) | (simp; omega) | omega) | exact on_rep (by walk_at "lstT") (by omega) (by omega) (by first | (simp; done) | omega)))
  | (apply en_sl; (walk_at "ev"); (walk_at "eo"); (walk_at "eo"); (walk_at "lst"))
  | (apply en_rev; (walk_at "ev"); (walk_at "lst"))
  | walk_at "compx")
local macro_rules | `(tactic| walk_at "eo") => `(tactic| first | exact eo_none | (apply eo_some; (walk_at "ev")))
local macro_rules | `(tactic| walk_at "ea") => `(tactic| first
  | exact ea_nil
  | (apply ea_cons; (walk_at "ev"); (walk_at "ea"); rfl))
local macro_rules | `(tactic| walk_at "ek") => `(tactic| first
  | exact ek_nil
  | (apply ek_cons; (walk_at "ev"); (walk_at "ek")))
local macro_rules | `(tactic| walk_at "et") => `(tactic| first
  | (apply et_cmp; (walk_at "ev"); (walk_at "ev"); (walk_at "cmp"); (walk_at "mark"))
  | (apply et_not; (walk_at "et"))
  | (apply et_chain; (walk_at "ev"); (walk_at "ev"); (walk_at "cmp"); (intro _; walk_at "ev"); (intro _; walk_at "cmp"); (walk_at "mark"))
  | (apply et_w; (walk_at "ew"))
  | (apply et_of; (walk_at "ev"); (intro _; rfl)))
local macro_rules | `(tactic| walk_at "ew") => `(tactic| first
  | (apply ew_and1; (walk_at "et"))
  | (apply ew_or1; (walk_at "et"))
  | (apply ew_and; (walk_at "et"); (intro _; walk_at "ew"); (intro _; rfl))
  | (apply ew_or; (walk_at "et"); (intro _; walk_at "ew"); (intro _; rfl)))
local macro_rules | `(tactic| walk_at "tg") => `(tactic| exact tgOk_name _ (by assumption) (ixOf_at rfl) (by decide) (fun _ _ _ _ _ => Or.inl rfl) (fun _ _ _ _ _ => Or.inl rfl))
local macro_rules | `(tactic| walk_at "rg1") => `(tactic| (apply it_range1; (walk_at "ev"); (refine ⟨?_, ?_⟩ <;> omega); exact (Pr.Tx.n_range (by assumption)); rfl; rfl))
local macro_rules | `(tactic| walk_at "rg2") => `(tactic| (apply it_range2; (walk_at "ev"); (walk_at "ev"); (refine ⟨?_, ?_⟩ <;> omega); (refine ⟨?_, ?_⟩ <;> omega); exact (Pr.Tx.n_range (by assumption)); rfl; rfl; rfl))
local macro_rules | `(tactic| walk_at "globx") => `(tactic| first
  | exact ev_gint (Pr.Tx.k_MOST_HOUSES (by assumption)) rfl (by decide) | exact ev_gint (Pr.Tx.k_MOST_WORDS (by assumption)) rfl (by decide) | exact ev_gint (Pr.Tx.k_MOST_SAID (by assumption)) rfl (by decide) | exact ev_gint (Pr.Tx.k_MOST_COPIES (by assumption)) rfl (by decide) | exact ev_gint (Pr.Tx.k_MOST_ROWS (by assumption)) rfl (by decide))
namespace Pr
variable {P : Program} {w : World} {K : PySem.W.Frag} {mg : Str → Option Value} {base : Heap}
/-- an int, no bool -/
def isIn : D → Bool
  | .int _ => true | _ => false
def rl_is_integer : Rl := fun ds M g M' => ∃ d, ds = [d] ∧ d.kn = true ∧ g = .bl (isIn d) ∧ M' = M
theorem fo_is_integer (T : Tx K mg) : ∃ fd, FunD K d_is_integer.name d_is_integer.qual (defArgs s_is_integer) (defBody s_is_integer) (defScope s_is_integer) (d_is_integer.dvs K) (d_is_integer.kws K) (He.fAd K d_is_integer.at_) fd ∧ FnOk P w K mg base CX0 (0 + 1) (He.fAd K d_is_integer.at_) fd ["value"] (spD K rl_is_integer) := by
  obtain ⟨fd, F⟩ := T.f_is_integer
  have nd := sc_is_integer.nd
  refine ⟨fd, F, fn_def F sc_is_integer ?_ ?_⟩
  · rintro ds M g M' ⟨d, rfl, _⟩; rfl
  · rintro cdv A outer s H E hr ds M g M' ⟨d, rfl, hk, rfl, rfl⟩
    conv => arg 4; whnf
    refine ss_ret ?_ ⟨rfl, fun _ _ h => h⟩
    refine ev_to (by walk_at "ev") ?_ rfl
    cases d <;> first | rfl | cases hk
theorem cal_is_integer (T : Tx K mg) : Cal P w K mg base (0 + 1) "is_integer" rl_is_integer [] := by
  obtain ⟨fd, F, Fn⟩ := fo_is_integer (P := P) (w := w) (base := base) T
  exact ⟨_, fd, ["value"], [], [], Fn, T.g_is_integer, F.kp, F.bindsN fun _ _ _ _ _ _ us hl => match us, hl with | [_], _ => rfl, .nil, fun _ => .nil⟩
local macro_rules | `(tactic| walk_at "fnx") => `(tactic| (apply ev_call (cal_is_integer (by assumption)) (by assumption) (by decide); (walk_at "ea"); exact ⟨_, rfl, by walk_at "kn", rfl, rfl⟩; rfl; rfl; rfl; rfl))
def isNum (most : D) : D → Bool
  | .int i => decide (0 ≤ i) && (match most with | .int m => decide (i ≤ m) | _ => true)
  | _ => false
def rl_is_number : Rl := fun ds M g M' => ∃ d m, ds = [d, m] ∧ d.kn = true ∧ (m = .non ∨ ∃ i, m = .int i) ∧ g = .bl (isNum m d) ∧ M' = M
theorem fo_is_number (T : Tx K mg) : ∃ fd, FunD K d_is_number.name d_is_number.qual (defArgs s_is_number) (defBody s_is_number) (defScope s_is_number) (d_is_number.dvs K) (d_is_number.kws K) (He.fAd K d_is_number.at_) fd ∧ FnOk P w K mg base CX0 (1 + 1) (He.fAd K d_is_number.at_) fd ["value", "most"] (spD K rl_is_number) := by
  obtain ⟨fd, F⟩ := T.f_is_number
  have nd := sc_is_number.nd
  refine ⟨fd, F, fn_def F sc_is_number ?_ ?_⟩
  · rintro ds M g M' ⟨d, m, rfl, _⟩; rfl
  · rintro cdv A outer s H E hr ds M g M' ⟨d, m, rfl, hk, hm, rfl, rfl⟩
    conv => arg 4; whnf
    refine ss_ret ?_ ⟨rfl, fun _ _ h => h⟩
    by_cases hi : isIn d = true
    · cases d <;> first | cases hi | skip
      rcases hm with rfl | ⟨j, rfl⟩
      · refine ev_to (ev_andB (by walk_at "ev") fun _ => ev_andB (by walk_at "ev") fun _ => ev_one (ev_orT (ev_to (by walk_at "ev") (by rfl) rfl))) ?_ rfl
        simp [isIn, isNum, D.isNon]
      · refine ev_to (by walk_at "ev") ?_ rfl
        simp [isIn, isNum, D.isNon]
    · rw [Bool.not_eq_true] at hi
      have : isNum m d = false := by cases d <;> first | rfl | cases hi
      rw [this]
      exact ev_andF (ev_to (by walk_at "ev") (by rw [hi]) rfl)
theorem cal_is_number (T : Tx K mg) : Cal P w K mg base (1 + 1) "is_number" rl_is_number [] := by
  obtain ⟨fd, F, Fn⟩ := fo_is_number (P := P) (w := w) (base := base) T
  obtain ⟨ds, v, b⟩ := F.binds1 (ps := ["value", "most"]) 2 1 (by simp [d_is_number, He.DefD.dvs]) rfl fun T kV doc pm an cdv ct us its h1 h2 => match us, h1, its, h2 with | [_, _], _, [_], _ => ⟨_, rfl, rfl⟩
  cases v
  exact ⟨_, fd, ["value", "most"], [], [], Fn, T.g_is_number, F.kp, b, .nil, fun _ => .nil⟩
theorem cal_is_number1 (T : Tx K mg) : Cal P w K mg base (1 + 1) "is_number" rl_is_number [.non] := by
  obtain ⟨fd, F, Fn⟩ := fo_is_number (P := P) (w := w) (base := base) T
  obtain ⟨ds, v, b⟩ := F.binds1 (ps := ["value", "most"]) 1 0 (by simp [d_is_number, He.DefD.dvs]) rfl fun T kV doc pm an cdv ct us its h1 h2 => match us, h1, its, h2 with | [_], _, [_], _ => ⟨_, rfl, rfl⟩
  exact ⟨_, fd, ["value", "most"], _, _, Fn, T.g_is_number, F.kp, b, v, fun _ => .cons .non .nil⟩
local macro_rules | `(tactic| walk_at "fnx") => `(tactic| (apply ev_call (cal_is_number (by assumption)) (by assumption) (by decide); (walk_at "ea"); exact ⟨_, _, rfl, by walk_at "kn", Or.inr ⟨_, rfl⟩, rfl, rfl⟩; rfl; rfl; rfl; rfl))
local macro_rules | `(tactic| walk_at "fnx") => `(tactic| (apply ev_call (cal_is_number1 (by assumption)) (by assumption) (by decide); (walk_at "ea"); exact ⟨_, _, rfl, by walk_at "kn", Or.inl rfl, rfl, rfl⟩; rfl; rfl; rfl; rfl))
def isSeq (d : D) : Bool := d.isLi || d.isTu
def rl_is_sequence : Rl := fun ds M g M' => ∃ d, ds = [d] ∧ d.kn = true ∧ g = .bl (isSeq d) ∧ M' = M
theorem fo_is_sequence (T : Tx K mg) : ∃ fd, FunD K d_is_sequence.name d_is_sequence.qual (defArgs s_is_sequence) (defBody s_is_sequence) (defScope s_is_sequence) (d_is_sequence.dvs K) (d_is_sequence.kws K) (He.fAd K d_is_sequence.at_) fd ∧ FnOk P w K mg base CX0 (0 + 1) (He.fAd K d_is_sequence.at_) fd ["value"] (spD K rl_is_sequence) := by
  obtain ⟨fd, F⟩ := T.f_is_sequence
  have nd := sc_is_sequence.nd
  refine ⟨fd, F, fn_def F sc_is_sequence ?_ ?_⟩
  · rintro ds M g M' ⟨d, rfl, _⟩; rfl
  · rintro cdv A outer s H E hr ds M g M' ⟨d, rfl, hk, rfl, rfl⟩
    conv => arg 4; whnf
    refine ss_ret ?_ ⟨rfl, fun _ _ h => h⟩
    apply ev_isinstance
    · apply ea_cons
      · walk_at "ev"
      · apply ea_cons
        · apply ev_tup
          · apply ea_cons
            · walk_at "ev"
            · apply ea_cons
              · walk_at "ev"
              · exact ea_nil
              · rfl
            · rfl
          · simp
        · exact ea_nil
        · rfl
      · rfl
    · exact cd_isSeq hk
    · exact T.n_isinstance
    all_goals rfl
theorem cal_is_sequence (T : Tx K mg) : Cal P w K mg base (0 + 1) "is_sequence" rl_is_sequence [] := by
  obtain ⟨fd, F, Fn⟩ := fo_is_sequence (P := P) (w := w) (base := base) T
  exact ⟨_, fd, ["value"], [], [], Fn, T.g_is_sequence, F.kp, F.bindsN fun _ _ _ _ _ _ us hl => match us, hl with | [_], _ => rfl, .nil, fun _ => .nil⟩
local macro_rules | `(tactic| walk_at "fnx") => `(tactic| (apply ev_call (cal_is_sequence (by assumption)) (by assumption) (by decide); (walk_at "ea"); exact ⟨_, rfl, by walk_at "kn", rfl, rfl⟩; rfl; rfl; rfl; rfl))
end Pr

set_option Elab.async false
set_option linter.all false
set_option maxRecDepth 100000
set_option maxHeartbeats 4000000
open PySem PySem.Spec PyProof.Rows L2 Sy
local macro_rules | `(tactic| walk_at "tg") => `(tactic| (refine tgOk_name _ (by assumption) (ixOf_at rfl) ?_ ?_ ?_; decide; exact fun _ _ _ _ _ => Or.inl rfl; exact fun _ _ _ _ _ => Or.inr rfl))
local macro_rules | `(tactic| walk_at "cx") => `(tactic| ((walk_at "blk"); rfl; assumption; exact (fun _ => rfl); (walk_at "cn"); trivial; (intros; trivial)))
local macro_rules | `(tactic| walk_at "cn") => `(tactic| first | omega | (simp; omega))
local macro_rules | `(tactic| walk_at "itL") => `(tactic| (apply it_list; (walk_at "ev"); (first | exact Or.inl rfl | exact Or.inr rfl)))
local macro_rules | `(tactic| walk_at "itT") => `(tactic| (apply it_tup; (walk_at "ev"); (first | exact Or.inl rfl | exact Or.inr rfl)))
local macro_rules | `(tactic| walk_at "blk") => `(tactic| exact ⟨rfl, of_decide_eq_true (Eq.refl true), of_decide_eq_true (Eq.refl true), of_decide_eq_true (Eq.refl true), of_decide_eq_true (Eq.refl true)⟩)
local macro_rules | `(tactic| walk_at "fnx") => `(tactic| (apply ev_call (Pr.cal_is_integer (by assumption)) (by assumption) (by decide); (walk_at "ea"); exact ⟨_, rfl, by walk_at "kn", rfl, rfl⟩; rfl; rfl; rfl; rfl))
local macro_rules | `(tactic| walk_at "fnx") => `(tactic| (apply ev_call (Pr.cal_is_number (by assumption)) (by assumption) (by decide); (walk_at "ea"); exact ⟨_, _, rfl, by walk_at "kn", Or.inr ⟨_, rfl⟩, rfl, rfl⟩; rfl; rfl; rfl; rfl))
local macro_rules | `(tactic| walk_at "fnx") => `(tactic| (apply ev_call (Pr.cal_is_number1 (by assumption)) (by assumption) (by decide); (walk_at "ea"); exact ⟨_, _, rfl, by walk_at "kn", Or.inl rfl, rfl, rfl⟩; rfl; rfl; rfl; rfl))
local macro_rules | `(tactic| walk_at "fnx") => `(tactic| (apply ev_call (Pr.cal_is_sequence (by assumption)) (by assumption) (by decide); (walk_at "ea"); exact ⟨_, rfl, by walk_at "kn", rfl, rfl⟩; rfl; rfl; rfl; rfl))
local macro_rules | `(tactic| walk_at "sd") => `(tactic| first | assumption | rfl | omega | trivial)
namespace Pr
variable {P : Program} {w : World} {K : PySem.W.Frag} {mg : Str → Option Value} {base : Heap}
def upTrue (l : List Int) : Bool := (rgI 1 l.length).all fun j => decide ((l[(j - 1).toNat]?).getD 0 < (l[j.toNat]?).getD 0)
def rl_is_ascending : Rl := fun ds M g M' => ∃ (d : D) (ns : List Int), ds = [d] ∧ SeqOf M d (ns.map D.int) ∧ ns.length ≤ 1000 ∧ g = .bl (upTrue ns) ∧ M' = M
theorem allB (l : List Int) (f : Int → Bool) : (l.map f).all id = l.all f := by rw [List.all_map]; rfl
theorem bl_map {α : Type} (l : List α) (f : α → Bool) : (l.map fun j => D.bl (f j)) = (l.map f).map D.bl := by rw [List.map_map]; rfl
theorem fo_is_ascending (T : Tx K mg) : ∃ fd, FunD K d_is_ascending.name d_is_ascending.qual (defArgs s_is_ascending) (defBody s_is_ascending) (defScope s_is_ascending) (d_is_ascending.dvs K) (d_is_ascending.kws K) (He.fAd K d_is_ascending.at_) fd ∧ FnOk P w K mg base CX0 (0 + 1) (He.fAd K d_is_ascending.at_) fd ["row"] (spD K rl_is_ascending) := by
  obtain ⟨fd, F⟩ := T.f_is_ascending
  have nd := sc_is_ascending.nd
  refine ⟨fd, F, fn_def F sc_is_ascending ?_ ?_⟩
  · rintro ds M g M' ⟨d, ns, rfl, _⟩; rfl
  · rintro cdv A outer s H E hr ds M g M' ⟨d, ns, rfl, hs, hl, rfl, rfl⟩
    conv => arg 4; whnf
    have hlen : (ns.map D.int).length = ns.length := List.length_map ..
    refine ss_ret ?_ ⟨rfl, fun _ _ h => h⟩
    refine ev_to (g := .bl (((rgI 1 (ns.map D.int).length).map fun j => decide ((ns[(j - 1).toNat]?).getD 0 < (ns[j.toNat]?).getD 0)).all id)) ?_ (by rw [allB, hlen]; rfl) rfl
    apply ev_all
    · apply ea_cons
      · apply ev_of_new
        apply en_mapR (own := [("at", 1)]) (hi' := (ns.map D.int).length) (M1 := M') (fun j : Int => D.bl (decide ((ns[(j - 1).toNat]?).getD 0 < (ns[j.toNat]?).getD 0)))
        · walk_at "rg2"
        · refine tgOk_name 1 nd rfl ?_ ?_ ?_
          · decide
          · exact fun _ _ _ _ _ => Or.inl rfl
          · exact fun _ _ _ _ _ => Or.inr rfl
        · walk_at "blk"
        · rfl
        · exact nd
        · exact fun _ => rfl
        · omega
        · trivial
        · exact fun _ => trivial
        · intro j h1 h2 s H C cl fp
          apply ev_cmp
          · apply ev_ix
            · walk_at "ev"
            · walk_at "ev"
            · exact oi_seq hs (atI_ints (by omega) (by omega))
            · exact fun _ _ => rfl
          · apply ev_ix
            · walk_at "ev"
            · walk_at "ev"
            · exact oi_seq hs (atI_ints (by omega) (by omega))
            · exact fun _ _ => rfl
          · walk_at "cmp"
          · walk_at "mark"
      · exact ea_nil
      · rfl
    · exact cd_all rfl (.inl (by rw [← bl_map]))
    · exact T.n_all
    all_goals rfl
theorem cal_is_ascending (T : Tx K mg) : Cal P w K mg base (0 + 1) "is_ascending" rl_is_ascending [] := by
  obtain ⟨fd, F, Fn⟩ := fo_is_ascending (P := P) (w := w) (base := base) T
  exact ⟨_, fd, ["row"], [], [], Fn, T.g_is_ascending, F.kp, F.bindsN fun _ _ _ _ _ _ us hl => match us, hl with | [_], _ => rfl, .nil, fun _ => .nil⟩
end Pr

set_option Elab.async false
set_option linter.all false
set_option maxRecDepth 100000
set_option maxHeartbeats 1000000
open PySem PySem.Spec PyProof.Rows L2 Sy
local macro_rules | `(tactic| walk_at "set") => `(tactic| (apply ss_set; (walk_at "ev"); assumption; exact ixOf_at rfl; exact Or.inl rfl; exact Or.inl rfl; rfl))
local macro_rules | `(tactic| walk_at "setN") => `(tactic| (apply ss_setN; (walk_at "en"); assumption; exact ixOf_at rfl; exact Or.inl rfl; exact Or.inl rfl; rfl))
local macro_rules | `(tactic| walk_at "setIx") => `(tactic| (apply ss_step; (apply s1_setIx; (walk_at "ev"); (walk_at "ev"); (walk_at "ev"); (walk_at "mm"); rfl; (intro _; rfl); rfl; rfl; rfl; exact ⟨rfl, rfl⟩)))
local macro_rules | `(tactic| walk_at "fnx") => `(tactic| (apply ev_call (Pr.cal_is_ascending (by assumption)) (by assumption) (by decide); (walk_at "ea"); exact ⟨_, _, rfl, by walk_at "seq", by walk_at "sd", rfl, rfl⟩; rfl; rfl; rfl; rfl))
namespace Pr
variable {P : Program} {w : World} {K : PySem.W.Frag} {mg : Str → Option Value} {base : Heap}

theorem le_a (c : Nat) : (!decide ((⟨#[c]⟩ : Str).cps.toList < (Str.ofString "a").cps.toList)) = decide (97 ≤ c) := by
  have h : (Str.ofString "a").cps.toList = [97] := by decide
  rw [h]
  show (!decide ([c] < [97])) = _
  have : ([c] < [97]) ↔ c < 97 := by rw [List.cons_lt_cons_iff]; simp
  by_cases hc : c < 97
  · rw [decide_eq_true (this.mpr hc), decide_eq_false (by omega)]; rfl
  · rw [decide_eq_false (fun z => hc (this.mp z)), decide_eq_true (by omega)]; rfl
theorem le_z (c : Nat) : (!decide ((Str.ofString "z").cps.toList < (⟨#[c]⟩ : Str).cps.toList)) = decide (c ≤ 122) := by
  have h : (Str.ofString "z").cps.toList = [122] := by decide
  rw [h]
  show (!decide ([122] < [c])) = _
  have : ([122] < [c]) ↔ 122 < c := by rw [List.cons_lt_cons_iff]; simp
  by_cases hc : 122 < c
  · rw [decide_eq_true (this.mpr hc), decide_eq_false (by omega)]; rfl
  · rw [decide_eq_false (fun z => hc (this.mp z)), decide_eq_true (by omega)]; rfl
def nameOk (z : Str) : Prop := 1 ≤ z.length ∧ z.length ≤ 6 ∧ ∀ c ∈ z.cps.toList, 97 ≤ c ∧ c ≤ 122
def rl_is_name : Rl := fun ds M g M' => ∃ z, ds = [.str z] ∧ nameOk z ∧ g = .bl true ∧ M' = M
theorem fo_is_name (T : Tx K mg) : ∃ fd, FunD K d_is_name.name d_is_name.qual (defArgs s_is_name) (defBody s_is_name) (defScope s_is_name) (d_is_name.dvs K) (d_is_name.kws K) (He.fAd K d_is_name.at_) fd ∧ FnOk P w K mg base CX0 (0 + 1) (He.fAd K d_is_name.at_) fd ["value"] (spD K rl_is_name) := by
  obtain ⟨fd, F⟩ := T.f_is_name
  have nd := sc_is_name.nd
  refine ⟨fd, F, fn_def F sc_is_name ?_ ?_⟩
  · rintro ds M g M' ⟨d, rfl, _⟩; rfl
  · rintro cdv A outer s H E hr ds M g M' ⟨z, rfl, ⟨h1, h2, h3⟩, rfl, rfl⟩
    conv => arg 4; whnf
    have hl : z.length ≤ 100000 := by omega
    refine ss_ifF (by walk_at "et") ?_ ?_
    · have e1 : (1 : Int) ≤ z.length := by omega
      have e2 : (z.length : Int) ≤ 6 := by omega
      simp [D.isS, e1, e2]
    · refine ss_ret ?_ ⟨rfl, fun _ _ h => h⟩
      refine ev_to (g := .bl (((List.range z.cps.size).map fun _ => true).all id)) ?_ (by simp) rfl
      apply ev_all
      · apply ea_cons
        · apply ev_of_new
          apply en_map0 (own := [("sign", 1)]) (M1 := M') (fun _ => D.bl true)
          · exact it_str (by walk_at "ev")
          · walk_at "tg"
          · walk_at "blk"
          · rfl
          · exact nd
          · exact fun _ => rfl
          · show z.length ≤ 100000
            omega
          · trivial
          · exact fun _ _ => trivial
          · intro i hi s H C cl fp
            have hc := h3 _ (List.getElem_mem (l := z.cps.toList) (n := i) (by simpa using hi))
            have e0 : (z.cps[i]?).getD 0 = z.cps.toList[i]'(by simpa using hi) := by simp [hi]
            refine ev_to (ev_chain (t := decide (97 ≤ (z.cps[i]?).getD 0)) (u := decide ((z.cps[i]?).getD 0 ≤ 122)) (by walk_at "ev") (by walk_at "ev") (by rw [← le_a]; exact oc_leS) (fun _ => by walk_at "ev") (fun _ => by rw [← le_z]; exact oc_leS) rfl) ?_ rfl
            rw [e0, decide_eq_true hc.1, decide_eq_true hc.2]
            rfl
        · exact ea_nil
        · rfl
      · refine cd_all rfl (.inl ?_)
        rw [List.map_map]; rfl
      · exact T.n_all
      all_goals rfl
theorem cal_is_name (T : Tx K mg) : Cal P w K mg base (0 + 1) "is_name" rl_is_name [] := by
  obtain ⟨fd, F, Fn⟩ := fo_is_name (P := P) (w := w) (base := base) T
  exact ⟨_, fd, ["value"], [], [], Fn, T.g_is_name, F.kp, F.bindsN fun _ _ _ _ _ _ us hl => match us, hl with | [_], _ => rfl, .nil, fun _ => .nil⟩
def rl_lot_of : Rl := fun ds M g M' => ∃ (ns : List Int) (many : Int), ds = [.tup (ns.map D.int), .int many] ∧ ns.length ≤ 1000 ∧ (∀ n ∈ ns, 0 ≤ n ∧ n < many) ∧ upTrue ns = true ∧ g = .tup (ns.map D.int) ∧ M' = M
theorem fo_lot_of (T : Tx K mg) : ∃ fd, FunD K d_lot_of.name d_lot_of.qual (defArgs s_lot_of) (defBody s_lot_of) (defScope s_lot_of) (d_lot_of.dvs K) (d_lot_of.kws K) (He.fAd K d_lot_of.at_) fd ∧ FnOk P w K mg base CX0 (2 + 1) (He.fAd K d_lot_of.at_) fd ["value", "many"] (spD K rl_lot_of) := by
  obtain ⟨fd, F⟩ := T.f_lot_of
  have nd := sc_lot_of.nd
  refine ⟨fd, F, fn_def F sc_lot_of ?_ ?_⟩
  · rintro ds M g M' ⟨ns, many, rfl, _⟩; rfl
  · rintro cdv A outer s H E hr ds M g M' ⟨ns, many, rfl, h1, h2, h3, rfl, rfl⟩
    conv => arg 4; whnf
    have hlen : (ns.map D.int).length = ns.length := List.length_map ..
    refine ss_ifF (M' := M') (t := false) (et_w (ew_orF (et_toF (by walk_at "et") (by rfl)) (ew_or1 (et_toF (et_not (t := true) (et_of ?_ (fun _ => rfl))) rfl)))) rfl ?_
    · refine ev_to (g := .bl (((ns.map D.int).map fun _ => true).all id)) ?_ (by simp) rfl
      apply ev_all
      · apply ea_cons
        · apply ev_of_new
          apply en_mapL (own := [("one", 2)]) (M1 := M') (fun _ => D.bl true)
          · walk_at "itT"
          · walk_at "tg"
          walk_at "cx"
          · intro d hd s H C cl fp
            obtain ⟨n, hn, rfl⟩ := List.mem_map.mp hd
            refine ev_to (by walk_at "ev") ?_ rfl
            have := h2 n hn
            simp [isNum, this.1]
            omega
        · exact ea_nil
        · rfl
      · refine cd_all rfl (.inl ?_)
        rw [← bl_map]
      · exact T.n_all
      all_goals rfl
    · refine ss_ret ?_ ⟨rfl, fun _ _ h => h⟩
      exact ev_ifT (et_of (ev_to (by walk_at "ev") (by rw [h3]) rfl) fun _ => rfl) rfl (by walk_at "ev")
theorem cal_lot_of (T : Tx K mg) : Cal P w K mg base (2 + 1) "lot_of" rl_lot_of [] := by
  obtain ⟨fd, F, Fn⟩ := fo_lot_of (P := P) (w := w) (base := base) T
  exact ⟨_, fd, ["value", "many"], [], [], Fn, T.g_lot_of, F.kp, F.bindsN fun _ _ _ _ _ _ us hl => match us, hl with | [_, _], _ => rfl, .nil, fun _ => .nil⟩
end Pr

set_option Elab.async false
set_option linter.all false
set_option maxRecDepth 100000
set_option maxHeartbeats 1000000
open PySem PySem.Spec PyProof.Rows L2 Sy
namespace Pr
variable {P : Program} {w : World} {K : PySem.W.Frag} {mg : Str → Option Value} {base : Heap}
/-- the numbers of the walk -/
def mtb (z f s : Int) : Int := ((rgI z (f + 1)).map fun l => max 0 (s - l)).sum
def rl_mistakes_to_break : Rl := fun ds M g M' => ∃ z f s : Int, ds = [.int z, .int f, .int s] ∧ 0 ≤ z ∧ z ≤ 1000 ∧ 0 ≤ f ∧ f ≤ 1000 ∧ g = .int (mtb z f s) ∧ M' = M
theorem fo_mistakes_to_break (T : Tx K mg) : ∃ fd, FunD K d_mistakes_to_break.name d_mistakes_to_break.qual (defArgs s_mistakes_to_break) (defBody s_mistakes_to_break) (defScope s_mistakes_to_break) (d_mistakes_to_break.dvs K) (d_mistakes_to_break.kws K) (He.fAd K d_mistakes_to_break.at_) fd ∧ FnOk P w K mg base CX0 (0 + 1) (He.fAd K d_mistakes_to_break.at_) fd ["z", "f", "s"] (spD K rl_mistakes_to_break) := by
  obtain ⟨fd, F⟩ := T.f_mistakes_to_break
  have nd := sc_mistakes_to_break.nd
  refine ⟨fd, F, fn_def F sc_mistakes_to_break ?_ ?_⟩
  · rintro ds M g M' ⟨z, f, s, rfl, _⟩; rfl
  · rintro cdv A outer s H E hr ds M g M' ⟨z, f, s, rfl, h1, h1', h2', h2, rfl, rfl⟩
    conv => arg 4; whnf
    refine ss_ret ?_ ⟨rfl, fun _ _ h => h⟩
    refine ev_to (g := .int ((rgI z (f + 1)).map fun l => max 0 (s - l)).sum) ?_ rfl rfl
    apply ev_sum
    · apply ea_cons
      · apply ev_of_new
        apply en_mapR (own := [("liars", 3)]) (hi' := f + 1) (M1 := M') (fun l : Int => D.int (max 0 (s - l)))
        · walk_at "rg2"
        · walk_at "tg"
        walk_at "cx"
        · intro j h1 h2 s H C cl fp
          exact ev_to (by walk_at "ev") rfl rfl
      · exact ea_nil
      · rfl
    · refine cd_sum rfl (.inl ?_)
      rw [List.map_map]; rfl
    · exact T.n_sum
    all_goals rfl
theorem cal_mistakes_to_break (T : Tx K mg) : Cal P w K mg base (0 + 1) "mistakes_to_break" rl_mistakes_to_break [] := by
  obtain ⟨fd, F, Fn⟩ := fo_mistakes_to_break (P := P) (w := w) (base := base) T
  exact ⟨_, fd, ["z", "f", "s"], [], [], Fn, T.g_mistakes_to_break, F.kp, F.bindsN fun _ _ _ _ _ _ us hl => match us, hl with | [_, _, _], _ => rfl, .nil, fun _ => .nil⟩
def kw_mistakes_to_break {α : Type} (us ws : List α) : List α := match ws with | [x_s, x_f, x_z] => [x_z, x_f, x_s] | _ => us
theorem calk_mistakes_to_break (T : Tx K mg) : CalK P w K mg base (0 + 1) "mistakes_to_break" rl_mistakes_to_break 0 ["s", "f", "z"] kw_mistakes_to_break := by
  obtain ⟨fd, F, Fn⟩ := fo_mistakes_to_break (P := P) (w := w) (base := base) T
  refine ⟨_, fd, ["z", "f", "s"], _, _, Fn, T.g_mistakes_to_break, F.kp, kbn0 F 0 ["s", "f", "z"] kw_mistakes_to_break ?_ ?_, ?_⟩
  · intro vs zs us ws h1 h2
    unfold kw_mistakes_to_break
    rcases h2 with _ | ⟨h_0, h2⟩
    · exact h1
    rcases h2 with _ | ⟨h_1, h2⟩
    · exact h1
    rcases h2 with _ | ⟨h_2, h2⟩
    · exact h1
    rcases h2 with _ | ⟨h_3, h2⟩
    · exact .cons h_2 (.cons h_1 (.cons h_0 (.nil)))
    exact h1
  · exact fun _ _ _ _ _ _ us ws h1 h2 => match us, h1, ws, h2 with | [], _, [_, _, _], _ => rfl
  · intro S vs ds zs es h1 h2
    unfold kw_mistakes_to_break
    rcases h2 with _ | ⟨h_0, h2⟩
    · exact h1
    rcases h2 with _ | ⟨h_1, h2⟩
    · exact h1
    rcases h2 with _ | ⟨h_2, h2⟩
    · exact h1
    rcases h2 with _ | ⟨h_3, h2⟩
    · exact .cons h_2 (.cons h_1 (.cons h_0 (.nil)))
    exact h1
def rl_best_askers : Rl := fun ds M g M' => ∃ k f : Int, ds = [.int k, .int f] ∧ g = .int (k - f) ∧ M' = M
theorem fo_best_askers (T : Tx K mg) : ∃ fd, FunD K d_best_askers.name d_best_askers.qual (defArgs s_best_askers) (defBody s_best_askers) (defScope s_best_askers) (d_best_askers.dvs K) (d_best_askers.kws K) (He.fAd K d_best_askers.at_) fd ∧ FnOk P w K mg base CX0 (0 + 1) (He.fAd K d_best_askers.at_) fd ["k", "f"] (spD K rl_best_askers) := by
  obtain ⟨fd, F⟩ := T.f_best_askers
  have nd := sc_best_askers.nd
  refine ⟨fd, F, fn_def F sc_best_askers ?_ ?_⟩
  · rintro ds M g M' ⟨k, f, rfl, _⟩; rfl
  · rintro cdv A outer s H E hr ds M g M' ⟨k, f, rfl, rfl, rfl⟩
    conv => arg 4; whnf
    refine ss_ret ?_ ⟨rfl, fun _ _ h => h⟩
    exact ev_to (by walk_at "ev") rfl rfl
theorem cal_best_askers (T : Tx K mg) : Cal P w K mg base (0 + 1) "best_askers" rl_best_askers [] := by
  obtain ⟨fd, F, Fn⟩ := fo_best_askers (P := P) (w := w) (base := base) T
  exact ⟨_, fd, ["k", "f"], [], [], Fn, T.g_best_askers, F.kp, F.bindsN fun _ _ _ _ _ _ us hl => match us, hl with | [_, _], _ => rfl, .nil, fun _ => .nil⟩
def kw_best_askers {α : Type} (us ws : List α) : List α := match ws with | [x_f, x_k] => [x_k, x_f] | _ => us
theorem calk_best_askers (T : Tx K mg) : CalK P w K mg base (0 + 1) "best_askers" rl_best_askers 0 ["f", "k"] kw_best_askers := by
  obtain ⟨fd, F, Fn⟩ := fo_best_askers (P := P) (w := w) (base := base) T
  refine ⟨_, fd, ["k", "f"], _, _, Fn, T.g_best_askers, F.kp, kbn0 F 0 ["f", "k"] kw_best_askers ?_ ?_, ?_⟩
  · intro vs zs us ws h1 h2
    unfold kw_best_askers
    rcases h2 with _ | ⟨h_0, h2⟩
    · exact h1
    rcases h2 with _ | ⟨h_1, h2⟩
    · exact h1
    rcases h2 with _ | ⟨h_2, h2⟩
    · exact .cons h_1 (.cons h_0 (.nil))
    exact h1
  · exact fun _ _ _ _ _ _ us ws h1 h2 => match us, h1, ws, h2 with | [], _, [_, _], _ => rfl
  · intro S vs ds zs es h1 h2
    unfold kw_best_askers
    rcases h2 with _ | ⟨h_0, h2⟩
    · exact h1
    rcases h2 with _ | ⟨h_1, h2⟩
    · exact h1
    rcases h2 with _ | ⟨h_2, h2⟩
    · exact .cons h_1 (.cons h_0 (.nil))
    exact h1
/-- the tale's rows -/
def tale (z f s : Int) : List D := (rgI z (f + 1)).map fun l => .tup [.int (min s l), .int (max 0 (s - l))]
def rl_breaking : Rl := fun ds M g M' => ∃ z f s : Int, ds = [.int z, .int f, .int s] ∧ 0 ≤ z ∧ z ≤ 1000 ∧ 0 ≤ f ∧ f ≤ 1000 ∧ g = .tup (tale z f s) ∧ M' = M
theorem fo_breaking (T : Tx K mg) : ∃ fd, FunD K d_breaking.name d_breaking.qual (defArgs s_breaking) (defBody s_breaking) (defScope s_breaking) (d_breaking.dvs K) (d_breaking.kws K) (He.fAd K d_breaking.at_) fd ∧ FnOk P w K mg base CX0 (0 + 1) (He.fAd K d_breaking.at_) fd ["z", "f", "s"] (spD K rl_breaking) := by
  obtain ⟨fd, F⟩ := T.f_breaking
  have nd := sc_breaking.nd
  refine ⟨fd, F, fn_def F sc_breaking ?_ ?_⟩
  · rintro ds M g M' ⟨z, f, s, rfl, _⟩; rfl
  · rintro cdv A outer s H E hr ds M g M' ⟨z, f, s, rfl, h1, h1', h2', h2, rfl, rfl⟩
    conv => arg 4; whnf
    refine ss_ret ?_ ⟨rfl, fun _ _ h => h⟩
    refine ev_to (g := .tup ((rgI z (f + 1)).map fun l => .tup [.int (min s l), .int (max 0 (s - l))])) ?_ rfl rfl
    apply ev_Ttuple
    · apply ea_cons
      · apply ev_of_new
        apply en_mapR (own := [("liars", 3)]) (hi' := f + 1) (M1 := M') (fun l : Int => .tup [.int (min s l), .int (max 0 (s - l))])
        · walk_at "rg2"
        · walk_at "tg"
        walk_at "cx"
        · intro j h1 h2 s H C cl fp
          exact ev_to (by walk_at "ev") rfl rfl
      · exact ea_nil
      · rfl
    · exact cd_tupleL (.inl rfl)
    · exact T.n_tuple
    all_goals rfl
theorem cal_breaking (T : Tx K mg) : Cal P w K mg base (0 + 1) "breaking" rl_breaking [] := by
  obtain ⟨fd, F, Fn⟩ := fo_breaking (P := P) (w := w) (base := base) T
  exact ⟨_, fd, ["z", "f", "s"], [], [], Fn, T.g_breaking, F.kp, F.bindsN fun _ _ _ _ _ _ us hl => match us, hl with | [_, _, _], _ => rfl, .nil, fun _ => .nil⟩
def kw_breaking {α : Type} (us ws : List α) : List α := match ws with | [x_f, x_s, x_z] => [x_z, x_f, x_s] | _ => us
theorem calk_breaking (T : Tx K mg) : CalK P w K mg base (0 + 1) "breaking" rl_breaking 0 ["f", "s", "z"] kw_breaking := by
  obtain ⟨fd, F, Fn⟩ := fo_breaking (P := P) (w := w) (base := base) T
  refine ⟨_, fd, ["z", "f", "s"], _, _, Fn, T.g_breaking, F.kp, kbn0 F 0 ["f", "s", "z"] kw_breaking ?_ ?_, ?_⟩
  · intro vs zs us ws h1 h2
    unfold kw_breaking
    rcases h2 with _ | ⟨h_0, h2⟩
    · exact h1
    rcases h2 with _ | ⟨h_1, h2⟩
    · exact h1
    rcases h2 with _ | ⟨h_2, h2⟩
    · exact h1
    rcases h2 with _ | ⟨h_3, h2⟩
    · exact .cons h_2 (.cons h_0 (.cons h_1 (.nil)))
    exact h1
  · exact fun _ _ _ _ _ _ us ws h1 h2 => match us, h1, ws, h2 with | [], _, [_, _, _], _ => rfl
  · intro S vs ds zs es h1 h2
    unfold kw_breaking
    rcases h2 with _ | ⟨h_0, h2⟩
    · exact h1
    rcases h2 with _ | ⟨h_1, h2⟩
    · exact h1
    rcases h2 with _ | ⟨h_2, h2⟩
    · exact h1
    rcases h2 with _ | ⟨h_3, h2⟩
    · exact .cons h_2 (.cons h_0 (.cons h_1 (.nil)))
    exact h1
end Pr

set_option Elab.async false
set_option linter.all false
set_option maxRecDepth 100000
set_option maxHeartbeats 1000000
set_option pp.maxSteps 60
open PySem PySem.Spec PyProof.Rows L2 Sy
local macro_rules | `(tactic| walk_at "tg2") => `(tactic| (apply as_tup; rfl; (apply asl_cons; (apply as_name; assumption; exact ixOf_at rfl; exact Or.inl rfl; exact Or.inl rfl); (apply asl_cons; (apply as_name; assumption; exact ixOf_at rfl; exact Or.inl rfl; exact Or.inl rfl); exact asl_nil; rfl); rfl); rfl; rfl))
local macro_rules | `(tactic| walk_at "tg1") => `(tactic| (apply as_name; assumption; exact ixOf_at rfl; exact Or.inl rfl; exact Or.inl rfl))
local macro_rules | `(tactic| walk_at "aug") => `(tactic| (apply ss_augI; assumption; exact ixOf_at rfl; rfl; (walk_at "ev"); exact Or.inl rfl; exact Or.inl rfl))
local macro_rules | `(tactic| walk_at "par") => `(tactic| (apply ss_parI; (walk_at "ev"); (walk_at "ev"); assumption; exact ixOf_at rfl; exact ixOf_at rfl; decide; rfl; rfl; rfl; rfl; rfl; rfl; rfl))
local macro_rules | `(tactic| walk_at "asg2") => `(tactic| (apply ss_asg; (walk_at "ev"); (walk_at "tg2"); rfl; rfl; rfl))
local macro_rules | `(tactic| walk_at "expr") => `(tactic| (apply ss_expr; (walk_at "ev"); rfl))
namespace Pr
variable {P : Program} {w : World} {K : PySem.W.Frag} {mg : Str → Option Value} {base : Heap}
/-- a plain value -/
def D.pl : D → Bool
  | .non => true | .bl _ => true | .int _ => true | .str _ => true | .tup _ => true | .lst _ => true | _ => false
theorem D.pl.kn {d : D} (h : D.pl d = true) : d.kn = true := by cases d <;> first | rfl | cases h
def rowOk (k z s place : Int) : D → Option Int
  | .tup [.int a, .int b] => if 0 ≤ a ∧ 0 ≤ b ∧ a ≤ z + place ∧ b ≤ k - z - place ∧ s ≤ a + b then some b else none
  | _ => none
def rowsOk (k z s : Int) : List D → Int → Int → Option Int
  | [], _, made => some made
  | r :: rs, place, made => match rowOk k z s place r with
    | none => none
    | some b => rowsOk k z s rs (place + 1) (made + b)
def isBr (k z f s most : Int) : D → Bool
  | .tup rows => decide ((rows.length : Int) = f + 1 - z) && (match rowsOk k z s rows 0 0 with | none => false | some m => decide (m ≤ most))
  | _ => false
def valOk (v : D) : Prop := D.pl v = true ∧ ∀ rows, v = .tup rows → rows.length ≤ 1000 ∧ ∀ r ∈ rows, D.pl r = true ∧ ∀ es, r = .tup es → es.length ≤ 1000 ∧ ∀ e ∈ es, D.pl e = true
def rl_is_breaking : Rl := fun ds M g M' => ∃ (k z f s most : Int) (v : D), ds = [.int k, .int z, .int f, .int s, .int most, v] ∧ valOk v ∧ g = .bl (isBr k z f s most v) ∧ M' = M
theorem rowsOk_drop {k z s : Int} {rows : List D} {i : Nat} {d : D} (h : rows[i]? = some d) (place made : Int) : rowsOk k z s (rows.drop i) place made = match rowOk k z s place d with | none => none | some b => rowsOk k z s (rows.drop (i + 1)) (place + 1) (made + b) := by
  have hl := (List.getElem?_eq_some_iff.mp h)
  obtain ⟨h1, h2⟩ := hl
  rw [List.drop_eq_getElem_cons h1, h2]
  rfl
theorem fo_is_breaking (T : Tx K mg) : ∃ fd, FunD K d_is_breaking.name d_is_breaking.qual (defArgs s_is_breaking) (defBody s_is_breaking) (defScope s_is_breaking) (d_is_breaking.dvs K) (d_is_breaking.kws K) (He.fAd K d_is_breaking.at_) fd ∧ FnOk P w K mg base CX0 (2 + 1) (He.fAd K d_is_breaking.at_) fd ["k", "z", "f", "s", "most", "value"] (spD K rl_is_breaking) := by
  obtain ⟨fd, F⟩ := T.f_is_breaking
  have nd := sc_is_breaking.nd
  refine ⟨fd, F, fn_def F sc_is_breaking ?_ ?_⟩
  · rintro ds M g M' ⟨k, z, f, s, most, v, rfl, _⟩; rfl
  · rintro cdv A outer s0 H E hr ds M g M' ⟨k, z, f, s, most, v, rfl, ⟨hv, hrows⟩, rfl, rfl⟩
    conv => arg 4; whnf
    have hk := D.pl.kn hv
    by_cases ht : v.isTu = true
    · cases v <;> first | (simp [D.isTu] at ht; done) | (simp [D.pl] at hv; done) | skip
      rename_i rows
      obtain ⟨hl, hr1⟩ := hrows rows rfl
      apply ss_ifR
      · walk_at "et"
      · intro e
        apply ss_ret
        · exact ev_bl
        · refine ⟨?_, fun _ _ h => h⟩
          have e2 : ¬ (rows.length : Int) = f + 1 - z := by simpa [D.isTu] using e
          simp [isBr, e2]
      · intro e
        have e2 : (rows.length : Int) = f + 1 - z := by simpa [D.isTu] using e
        have hg : isBr k z f s most (.tup rows) = (match rowsOk k z s rows 0 0 with | none => false | some m => decide (m ≤ most)) := by simp [isBr, e2]
        walk_at "set"
        apply ss_for (Iv := fun i Γ M2 => M2 = M' ∧ ∃ (made : Int) (x y : Option D), Γ = [some (.int k), some (.int z), some (.int f), some (.int s), some (.int most), some (.tup rows), some (.int made), x, y, none] ∧ rowsOk k z s (rows.drop i) i made = rowsOk k z s rows 0 0)
          (up := fun i Γ => (Γ.set 7 (some (.int i))).set 8 (some (atD rows i)))
        · apply it_enumT
          · walk_at "ev"
          · exact Or.inl rfl
          · exact T.n_enumerate
          · rfl
          · rfl
        · exact PassesOwn.never
        · rfl
        · exact fun _ => rfl
        · exact ⟨rfl, 0, none, none, rfl, rfl⟩
        · exact fun _ _ _ _ _ => trivial
        · rintro i Γ M2 hi ⟨rfl, made, x, y, rfl, _⟩
          show AS _ _ _ _ (.tup [.int i, atD rows i]) _
          walk_at "tg2"
        · rintro i Γ M2 hi ⟨rfl, made, x, y, rfl, hm⟩
          obtain ⟨d, hd⟩ : ∃ d, rows[i]? = some d := ⟨rows[i], List.getElem?_eq_getElem hi⟩
          rw [atD_of hd]
          obtain ⟨hpd, hes⟩ := hr1 d (List.mem_of_getElem? hd)
          have hkd := D.pl.kn hpd
          have bad : rowOk k z s i d = none → (owes (.bl (isBr k z f s most (.tup rows))) M2).rt (.bl false) M2 := fun h => by
            refine ⟨?_, fun _ _ h => h⟩
            rw [hg, ← hm, rowsOk_drop hd, h]
          by_cases htd : d.isTu = true
          · cases d <;> first | (simp [D.isTu] at htd; done) | (simp [D.pl] at hpd; done) | skip
            rename_i es
            obtain ⟨hel, hee⟩ := hes es rfl
            by_cases h2 : es.length = 2
            · match es, h2, hd, hee with
              | [x1, x2], h2', hd, hee =>
                have k1 := D.pl.kn (hee x1 (by simp))
                have k2 := D.pl.kn (hee x2 (by simp))
                apply ss_ifR (M' := M2) (t := !((isNum .non x1 && isNum .non x2)))
                · refine et_w (ew_orF (et_toF (by walk_at "et") (by rfl)) (ew_orF (et_toF (by walk_at "et") (by rfl)) (ew_or1 (et_not (et_of ?_ fun _ => rfl)))))
                  refine ev_to (g := .bl (([isNum .non x1, isNum .non x2]).all id)) ?_ (by simp) rfl
                  apply ev_all
                  · apply ea_cons
                    · apply ev_of_new
                      apply en_mapL (own := [("one", 9)]) (M1 := M2) (fun d => D.bl (isNum .non d))
                      · apply it_tup
                        · walk_at "ev"
                        · exact Or.inl rfl
                      · walk_at "tg"
                      walk_at "blk"
                      rfl
                      assumption
                      exact fun _ => rfl
                      simp
                      trivial
                      exact fun _ _ => trivial
                      · intro e he s H C cl fp
                        have ke := D.pl.kn (hee e he)
                        exact ev_to (by walk_at "ev") rfl rfl
                    · exact ea_nil
                    · rfl
                  · exact cd_all rfl (.inl rfl)
                  · exact T.n_all
                  all_goals rfl
                · intro e
                  apply ss_ret
                  · exact ev_bl
                  · refine bad ?_
                    cases x1 <;> first | (simp [rowOk]; done) | skip
                    cases x2 <;> first | (simp [rowOk]; done) | skip
                    rename_i a b
                    simp [isNum] at e
                    simp only [rowOk]
                    rw [if_neg]
                    intro h
                    omega
                · intro e
                  cases x1 <;> first | (simp [isNum] at e; done) | skip
                  cases x2 <;> first | (simp [isNum] at e; done) | skip
                  rename_i a b
                  obtain ⟨ea, eb⟩ : 0 ≤ a ∧ 0 ≤ b := by simpa [isNum] using e
                  apply ss_ifR
                  · walk_at "et"
                  · intro e2
                    apply ss_ret
                    · exact ev_bl
                    · refine bad ?_
                      simp only [rowOk]
                      rw [if_neg]
                      intro h
                      simp at e2
                      omega
                  · intro e2
                    walk_at "aug"
                    apply ss_nil
                    refine ⟨rfl, made + b, some (.int i), some (.tup [.int a, .int b]), rfl, ?_⟩
                    rw [← hm, rowsOk_drop hd]
                    have : rowOk k z s i (.tup [.int a, .int b]) = some b := by
                      simp only [rowOk]
                      rw [if_pos]
                      simp at e2
                      omega
                    rw [this]
                    have c1 : ((i + 1 : Nat) : Int) = (i : Int) + 1 := by omega
                    rw [c1]
            · refine ss_ifR (M' := M2) (t := true) (et_w (ew_orF (et_toF (by walk_at "et") (by rfl)) (ew_orT (et_toT (by walk_at "et") ?_)))) (fun _ => ?_) (fun e => nomatch e)
              · have : ¬ (es.length : Int) = 2 := by omega
                simp [this]
              · apply ss_ret
                · exact ev_bl
                · refine bad ?_
                  match es, h2 with
                  | [], _ => simp [rowOk]
                  | [_], _ => simp [rowOk]
                  | _ :: _ :: _ :: _, _ => simp [rowOk]
          · have htd : d.isTu = false := by simpa using htd
            refine ss_ifR (M' := M2) (t := true) (et_w (ew_orT (et_toT (t := !d.isTu) ?_ (by rw [htd]; rfl)))) (fun _ => ?_) (fun e => nomatch e)
            · walk_at "et"
            · apply ss_ret
              · exact ev_bl
              · refine bad ?_
                cases d <;> first | (simp [rowOk]; done) | (simp [D.isTu] at htd; done)
        · rintro Γ M2 ⟨rfl, made, x, y, rfl, hm⟩
          rw [List.drop_length] at hm
          apply ss_ret
          · walk_at "ev"
          · refine ⟨?_, fun _ _ h => h⟩
            rw [hg, ← hm]
            rfl
    · have ht : v.isTu = false := by simpa using ht
      refine ss_ifR (M' := M') (t := true) (et_w (ew_orT (et_toT (t := !v.isTu) ?_ (by rw [ht]; rfl)))) (fun _ => ?_) (fun e => nomatch e)
      · walk_at "et"
      · apply ss_ret
        · exact ev_bl
        · refine ⟨?_, fun _ _ h => h⟩
          cases v <;> first | rfl | cases ht
theorem cal_is_breaking (T : Tx K mg) : Cal P w K mg base (2 + 1) "is_breaking" rl_is_breaking [] := by
  obtain ⟨fd, F, Fn⟩ := fo_is_breaking (P := P) (w := w) (base := base) T
  exact ⟨_, fd, ["k", "z", "f", "s", "most", "value"], [], [], Fn, T.g_is_breaking, F.kp, F.bindsN fun _ _ _ _ _ _ us hl => match us, hl with | [_, _, _, _, _, _], _ => rfl, .nil, fun _ => .nil⟩
def kw_is_breaking {α : Type} (us ws : List α) : List α := match ws with | [x_value, x_most, x_s, x_f, x_z, x_k] => [x_k, x_z, x_f, x_s, x_most, x_value] | _ => us
theorem calk_is_breaking (T : Tx K mg) : CalK P w K mg base (2 + 1) "is_breaking" rl_is_breaking 0 ["value", "most", "s", "f", "z", "k"] kw_is_breaking := by
  obtain ⟨fd, F, Fn⟩ := fo_is_breaking (P := P) (w := w) (base := base) T
  refine ⟨_, fd, ["k", "z", "f", "s", "most", "value"], _, _, Fn, T.g_is_breaking, F.kp, kbn0 F 0 ["value", "most", "s", "f", "z", "k"] kw_is_breaking ?_ ?_, ?_⟩
  · intro vs zs us ws h1 h2
    unfold kw_is_breaking
    rcases h2 with _ | ⟨h_0, h2⟩
    · exact h1
    rcases h2 with _ | ⟨h_1, h2⟩
    · exact h1
    rcases h2 with _ | ⟨h_2, h2⟩
    · exact h1
    rcases h2 with _ | ⟨h_3, h2⟩
    · exact h1
    rcases h2 with _ | ⟨h_4, h2⟩
    · exact h1
    rcases h2 with _ | ⟨h_5, h2⟩
    · exact h1
    rcases h2 with _ | ⟨h_6, h2⟩
    · exact .cons h_5 (.cons h_4 (.cons h_3 (.cons h_2 (.cons h_1 (.cons h_0 (.nil))))))
    exact h1
  · exact fun _ _ _ _ _ _ us ws h1 h2 => match us, h1, ws, h2 with | [], _, [_, _, _, _, _, _], _ => rfl
  · intro S vs ds zs es h1 h2
    unfold kw_is_breaking
    rcases h2 with _ | ⟨h_0, h2⟩
    · exact h1
    rcases h2 with _ | ⟨h_1, h2⟩
    · exact h1
    rcases h2 with _ | ⟨h_2, h2⟩
    · exact h1
    rcases h2 with _ | ⟨h_3, h2⟩
    · exact h1
    rcases h2 with _ | ⟨h_4, h2⟩
    · exact h1
    rcases h2 with _ | ⟨h_5, h2⟩
    · exact h1
    rcases h2 with _ | ⟨h_6, h2⟩
    · exact .cons h_5 (.cons h_4 (.cons h_3 (.cons h_2 (.cons h_1 (.cons h_0 (.nil))))))
    exact h1
end Pr

set_option Elab.async false
set_option linter.all false
set_option maxRecDepth 100000
set_option maxHeartbeats 1000000
open PySem PySem.Spec PyProof.Rows L2 Sy
namespace Pr
variable {P : Program} {w : World} {K : PySem.W.Frag} {mg : Str → Option Value} {base : Heap}
/-- the well: three numbers -/
abbrev W3 := Int × Int × Int
def wl (w : W3) : List D := [.int w.1, .int w.2.1, .int w.2.2]
def dip (w : W3) (m : Int) : Int × W3 :=
  if 0 < w.1 then (w.1 % m, (w.1 / m, w.2.1, w.2.2)) else
    (((((w.2.1 + 90001 * (w.2.2 + 1)) * 61001 + 53) % 2147483549 * 2147483587 + ((((w.2.1 + 90001 * (w.2.2 + 1)) * 61001 + 53) % 2147483549 * 40127 + 23003) % 2147483563 + 1)) / 8221) % m,
      (w.1, (((w.2.1 + 90001 * (w.2.2 + 1)) * 61001 + 53) % 2147483549 * 40127 + 23003) % 2147483563 + 1, w.2.2 + 1))
theorem dip_lo (w : W3) {m : Int} (h : 0 < m) : 0 ≤ (dip w m).1 ∧ (dip w m).1 < m := by
  unfold dip
  split
  · exact ⟨Int.emod_nonneg _ (by omega), Int.emod_lt_of_pos _ h⟩
  · exact ⟨Int.emod_nonneg _ (by omega), Int.emod_lt_of_pos _ h⟩
theorem dip_inv {w : W3} {m : Int} (h : 0 < m) (hw : 0 ≤ w.1) : 0 ≤ (dip w m).2.1 := by
  unfold dip
  split
  · exact Int.ediv_nonneg hw (by omega)
  · exact hw
def rl__law_dip : Rl := fun ds M g M' => ∃ q w m, ds = [.raw (.ref q), .int m] ∧ M q = some (.lst (wl w)) ∧ 0 ≤ w.1 ∧ 0 < m ∧ m ≤ 1000 ∧ g = .int (dip w m).1 ∧ M' = updM M q (.lst (wl (dip w m).2))
theorem fo__law_dip (T : Tx K mg) : ∃ fd, FunD K d__law_dip.name d__law_dip.qual (defArgs s__law_dip) (defBody s__law_dip) (defScope s__law_dip) (d__law_dip.dvs K) (d__law_dip.kws K) (He.fAd K d__law_dip.at_) fd ∧ FnOk P w K mg base CX0 (0 + 1) (He.fAd K d__law_dip.at_) fd ["well", "many"] (spD K rl__law_dip) := by
  obtain ⟨fd, F⟩ := T.f__law_dip
  have nd := sc__law_dip.nd
  refine ⟨fd, F, fn_def F sc__law_dip ?_ ?_⟩
  · rintro ds M g M' ⟨q, w, m, rfl, _⟩; rfl
  · rintro cdv A outer s H E hr ds M g M' ⟨q, ⟨a, b, c⟩, m, rfl, hq, h1, h2, h3, rfl, rfl⟩
    conv => arg 4; whnf
    have hq' : M q = some (.lst [.int a, .int b, .int c]) := hq
    apply ss_if
    · walk_at "et"
    · intro e
      walk_at "set"
      walk_at "setIx"
      apply ss_ret
      · walk_at "ev"
      · exact ⟨by simp [dip, of_decide_eq_true e], fun a o h => by simpa [dip, of_decide_eq_true e, wl, updM_updM] using h⟩
    · intro e
      apply ss_nil
      walk_at "setIx"
      walk_at "set"
      walk_at "setIx"
      apply ss_ret
      · walk_at "ev"
      · have e := of_decide_eq_false e
        exact ⟨by simp [dip, e], fun a o h => by simpa [dip, e, wl, updM_updM] using h⟩
theorem cal__law_dip (T : Tx K mg) : Cal P w K mg base (0 + 1) "_law_dip" rl__law_dip [] := by
  obtain ⟨fd, F, Fn⟩ := fo__law_dip (P := P) (w := w) (base := base) T
  exact ⟨_, fd, ["well", "many"], [], [], Fn, T.g__law_dip, F.kp, F.bindsN fun _ _ _ _ _ _ us hl => match us, hl with | [_, _], _ => rfl, .nil, fun _ => .nil⟩
end Pr

set_option Elab.async false
set_option linter.all false
set_option maxRecDepth 100000
set_option maxHeartbeats 1000000
set_option pp.maxSteps 60
open PySem PySem.Spec PyProof.Rows L2 Sy
local macro_rules | `(tactic| walk_at "fnx") => `(tactic| (apply ev_call (Pr.cal__law_dip (by assumption)) (by assumption) (by decide); (walk_at "ea"); exact ⟨_, _, _, rfl, by walk_at "mm", by walk_at "sd", by walk_at "sd", by walk_at "sd", rfl, rfl⟩; rfl; rfl; rfl; rfl))
namespace Pr
variable {P : Program} {w : World} {K : PySem.W.Frag} {mg : Str → Option Value} {base : Heap}
/-- the well's first cell -/
def wc (ns : List Int) (k : Int) : Int :=
  if k < ns.length then (((ns[k.toNat]?).getD 0).natAbs : Int)
  else if 0 < (ns.length : Int) then 6007 * k + 419 + (((ns[(k % (ns.length : Int)).toNat]?).getD 0).natAbs : Int) % 2147483563 * 70001
  else 6007 * k + 419
def w0 (ns : List Int) (k : Int) : W3 :=
  (if (10 : Int) ^ 18 ≤ wc ns k then wc ns k else 0, (wc ns k % 2147483563 * 48017 + 39041 * k) % 2147483563 + 1, 0)
theorem wc_nn (ns : List Int) {k : Int} (h : 0 ≤ k) : 0 ≤ wc ns k := by
  unfold wc
  split
  · omega
  · split
    · have := Int.emod_nonneg (((ns[(k % (ns.length : Int)).toNat]?).getD 0).natAbs : Int) (b := 2147483563) (by decide)
      omega
    · omega
theorem w0_nn (ns : List Int) {k : Int} (h : 0 ≤ k) : 0 ≤ (w0 ns k).1 := by
  unfold w0
  simp only
  split
  · exact wc_nn ns h
  · exact Int.le_refl _
def rl__law_well : RlN := fun ds M g M' => ∃ (ns : List Int) (k : Int), ds = [.ro (ns.map D.int), .int k] ∧ 0 ≤ k ∧ k ≤ 1000 ∧ g = wl (w0 ns k) ∧ M' = M
theorem fo__law_well (T : Tx K mg) : ∃ fd, FunD K d__law_well.name d__law_well.qual (defArgs s__law_well) (defBody s__law_well) (defScope s__law_well) (d__law_well.dvs K) (d__law_well.kws K) (He.fAd K d__law_well.at_) fd ∧ FnOk P w K mg base CX0 (0 + 1) (He.fAd K d__law_well.at_) fd ["script", "k"] (spN K rl__law_well) := by
  obtain ⟨fd, F⟩ := T.f__law_well
  have nd := sc__law_well.nd
  refine ⟨fd, F, fn_defN F sc__law_well ?_ ?_⟩
  · rintro ds M g M' ⟨ns, k, rfl, _⟩; rfl
  · rintro cdv A outer s0 H E hr ds M g M' ⟨ns, k, rfl, h1, h2, rfl, rfl⟩
    conv => arg 4; whnf
    have hlen : (ns.map D.int).length = ns.length := List.length_map ..
    have fin : ∀ c : Int, c = wc ns k → SS (Bc P w K mg base ["script", "k", "cell"] d__law_well.qual (defScope s__law_well) (He.fAd K d__law_well.at_) cdv A outer s0 H E) [some (.ro (ns.map D.int)), some (.int k), some (.int c)] M' [(defBody s__law_well).getD 2 (.Pass ⟨0, 0, 0, 0⟩)] (owesN (wl (w0 ns k)) M') := by
      rintro c rfl
      conv => arg 4; whnf
      apply ss_one
      apply s1_retNew
      · apply en_lst
        · apply ea_cons
          · apply ev_ix
            · walk_at "ev"
            · walk_at "ev"
            · refine oi_lst (.inl rfl) (g := .int (w0 ns k).1) ?_
              unfold w0
              by_cases hc : (10 : Int) ^ 18 ≤ wc ns k
              · have : decide ((10 : Int) ^ (18 : Int).toNat ≤ wc ns k) = true := decide_eq_true hc
                rw [this, if_pos hc]; rfl
              · have : decide ((10 : Int) ^ (18 : Int).toNat ≤ wc ns k) = false := decide_eq_false hc
                rw [this, if_neg hc]; rfl
            · exact fun _ _ => rfl
          · walk_at "ea"
          · rfl
        · simp
      · exact ⟨rfl, fun _ _ h => h⟩
    walk_at "set"
    apply ss_if
    · walk_at "et"
    · intro e
      have e := of_decide_eq_true e
      apply ss_set
      · apply ev_abs
        · apply ea_cons
          · apply ev_ix
            · walk_at "ev"
            · walk_at "ev"
            · exact oi_lst (.inr (.inl rfl)) (atI_ints h1 (by omega))
            · exact fun _ _ => rfl
          · exact ea_nil
          · rfl
        · exact cd_abs
        · exact T.n_abs
        all_goals rfl
      · exact nd
      · exact ixOf_at rfl
      · exact Or.inl rfl
      · exact Or.inl rfl
      · rfl
      · apply ss_nil
        refine fin _ ?_
        unfold wc
        rw [if_pos (by omega)]
    · intro e
      have e := of_decide_eq_false e
      apply ss_if
      · walk_at "et"
      · intro e2
        have e2 := of_decide_eq_true e2
        have hm1 := Int.emod_nonneg k (b := (ns.map D.int).length) (by omega)
        have hm2 := Int.emod_lt_of_pos k (b := (ns.map D.int).length) (by omega)
        apply ss_set
        · apply ev_bin
          · walk_at "ev"
          · apply ev_bin
            · apply ev_bin
              · apply ev_Tint
                · apply ea_cons
                  · apply ev_abs
                    · apply ea_cons
                      · apply ev_ix
                        · walk_at "ev"
                        · apply ev_bin
                          · walk_at "ev"
                          · walk_at "ev"
                          · exact od_mod (by omega)
                        · exact oi_lst (.inr (.inl rfl)) (atI_ints hm1 (by omega))
                        · exact fun _ _ => rfl
                      · exact ea_nil
                      · rfl
                    · exact cd_abs
                    · exact T.n_abs
                    all_goals rfl
                  · exact ea_nil
                  · rfl
                · exact cd_int
                · exact T.n_int
                all_goals rfl
              · walk_at "ev"
              · walk_at "bin"
            · walk_at "ev"
            · walk_at "bin"
          · walk_at "bin"
        · exact nd
        · exact ixOf_at rfl
        · exact Or.inl rfl
        · exact Or.inl rfl
        · rfl
        · apply ss_nil
          apply ss_nil
          refine fin _ ?_
          unfold wc
          rw [if_neg (by omega), if_pos (by omega), hlen]
      · intro e2
        have e2 := of_decide_eq_false e2
        apply ss_nil
        apply ss_nil
        refine fin _ ?_
        unfold wc
        rw [if_neg (by omega), if_neg (by omega)]
theorem cal__law_well (T : Tx K mg) : CalN P w K mg base (0 + 1) "_law_well" rl__law_well := by
  obtain ⟨fd, F, Fn⟩ := fo__law_well (P := P) (w := w) (base := base) T
  exact ⟨_, fd, ["script", "k"], Fn, T.g__law_well, F.kp, F.bindsN fun _ _ _ _ _ _ us hl => match us, hl with | [_, _], _ => rfl⟩
end Pr

set_option Elab.async false
set_option linter.all false
set_option maxRecDepth 100000
set_option maxHeartbeats 1000000
set_option pp.maxSteps 60
open PySem PySem.Spec PyProof.Rows L2 Sy
namespace Pr
variable {P : Program} {w : World} {K : PySem.W.Frag} {mg : Str → Option Value} {base : Heap}
def lk : Nat → D → Prop
  | _, .int _ => True
  | _, .bl _ => True
  | n + 1, .tup es => es.length ≤ 1000 ∧ ∀ e ∈ es, lk n e
  | _, _ => False
def rl__law_likeN (n : Nat) : Rl := fun ds M g M' => ∃ d, ds = [d, d] ∧ lk n d ∧ g = .bl true ∧ M' = M
theorem fo__law_like (T : Tx K mg) : ∀ n : Nat, ∃ fd, FunD K d__law_like.name d__law_like.qual (defArgs s__law_like) (defBody s__law_like) (defScope s__law_like) (d__law_like.dvs K) (d__law_like.kws K) (He.fAd K d__law_like.at_) fd ∧ FnOk P w K mg base CX0 (n + 1) (He.fAd K d__law_like.at_) fd ["told", "due"] (spD K (rl__law_likeN n)) := by
  intro n
  induction n with
  | zero =>
    obtain ⟨fd, F⟩ := T.f__law_like
    have nd := sc__law_like.nd
    refine ⟨fd, F, fn_def F sc__law_like ?_ ?_⟩
    · rintro ds M g M' ⟨d, rfl, _⟩; rfl
    · rintro cdv A outer s0 H E hr ds M g M' ⟨d, rfl, hl, rfl, rfl⟩
      conv => arg 4; whnf
      cases d <;> first | exact hl.elim | skip
      · refine ss_ifF (M' := M') (t := false) (et_of (by walk_at "ev") fun _ => rfl) rfl ?_
        refine ss_ifF (M' := M') (t := false) (et_toF (by walk_at "et") (by rfl)) rfl ?_
        refine ss_ifT (M' := M') (t := true) (et_of (by walk_at "ev") fun _ => rfl) rfl ?_
        apply ss_ret
        · walk_at "ev"
        · exact ⟨by simp [D.isB], fun _ _ h => h⟩
      · refine ss_ifF (M' := M') (t := false) (et_of (by walk_at "ev") fun _ => rfl) rfl ?_
        refine ss_ifF (M' := M') (t := false) (et_toF (by walk_at "et") (by rfl)) rfl ?_
        refine ss_ifF (M' := M') (t := false) (et_of (by walk_at "ev") fun _ => rfl) rfl ?_
        refine ss_ifF (M' := M') (t := false) (et_of (by walk_at "ev") fun _ => rfl) rfl ?_
        apply ss_ret
        · walk_at "ev"
        · exact ⟨by simp [D.isB, D.isI], fun _ _ h => h⟩
  | succ n ih =>
    obtain ⟨fd, F⟩ := T.f__law_like
    have nd := sc__law_like.nd
    obtain ⟨fd2, F2, Fn2⟩ := ih
    have cal : Cal P w K mg base (n + 1) "_law_like" (rl__law_likeN n) [] := ⟨_, fd2, ["told", "due"], [], [], Fn2, T.g__law_like, F2.kp, F2.bindsN fun _ _ _ _ _ _ us hl => match us, hl with | [_, _], _ => rfl, .nil, fun _ => .nil⟩
    refine ⟨fd, F, fn_def F sc__law_like ?_ ?_⟩
    · rintro ds M g M' ⟨d, rfl, _⟩; rfl
    · rintro cdv A outer s0 H E hr ds M g M' ⟨d, rfl, hl, rfl, rfl⟩
      conv => arg 4; whnf
      cases d <;> first | exact hl.elim | skip
      · refine ss_ifF (M' := M') (t := false) (et_of (by walk_at "ev") fun _ => rfl) rfl ?_
        refine ss_ifF (M' := M') (t := false) (et_toF (by walk_at "et") (by rfl)) rfl ?_
        refine ss_ifT (M' := M') (t := true) (et_of (by walk_at "ev") fun _ => rfl) rfl ?_
        apply ss_ret
        · walk_at "ev"
        · exact ⟨by simp [D.isB], fun _ _ h => h⟩
      · refine ss_ifF (M' := M') (t := false) (et_of (by walk_at "ev") fun _ => rfl) rfl ?_
        refine ss_ifF (M' := M') (t := false) (et_toF (by walk_at "et") (by rfl)) rfl ?_
        refine ss_ifF (M' := M') (t := false) (et_of (by walk_at "ev") fun _ => rfl) rfl ?_
        refine ss_ifF (M' := M') (t := false) (et_of (by walk_at "ev") fun _ => rfl) rfl ?_
        apply ss_ret
        · walk_at "ev"
        · exact ⟨by simp [D.isB, D.isI], fun _ _ h => h⟩
      · rename_i es
        obtain ⟨hlen, hes⟩ := hl
        refine ss_ifT (M' := M') (t := true) (et_of (by walk_at "ev") fun _ => rfl) rfl ?_
        apply ss_ret (g := .bl true) (M' := M')
        · apply ev_andT
          · exact ev_to (by walk_at "ev") (by rfl) rfl
          · apply ev_andT
            · refine ev_to (by walk_at "ev") ?_ rfl
              simp
            · apply ev_one
              refine ev_to (g := .bl (((rgI 0 es.length).map fun _ => true).all id)) ?_ (by simp) rfl
              apply ev_all
              · apply ea_cons
                · apply ev_of_new
                  apply en_mapR1 (own := [("at", 2)]) (hi' := es.length) (M1 := M') (fun _ => D.bl true)
                  · walk_at "rg1"
                  · walk_at "tg"
                  walk_at "cx"
                  · intro j h1 h2 s H C cl fp
                    have hj : j.toNat < es.length := by omega
                    apply ev_call cal (j := n + 1) hr (by omega)
                    · apply ea_cons
                      · apply ev_ix
                        · walk_at "ev"
                        · walk_at "ev"
                        · exact oi_tup (.inl rfl) (atI_nn h1 (List.getElem?_eq_getElem hj))
                        · exact fun _ _ => rfl
                      · apply ea_cons
                        · apply ev_ix
                          · walk_at "ev"
                          · walk_at "ev"
                          · exact oi_tup (.inl rfl) (atI_nn h1 (List.getElem?_eq_getElem hj))
                          · exact fun _ _ => rfl
                        · exact ea_nil
                        · rfl
                      · rfl
                    · exact ⟨_, rfl, hes _ (List.getElem_mem hj), rfl, rfl⟩
                    all_goals rfl
                · exact ea_nil
                · rfl
              · exact cd_all rfl (.inl (by rw [← bl_map]))
              · exact T.n_all
              all_goals rfl
        · exact ⟨rfl, fun _ _ h => h⟩
theorem cal__law_like (T : Tx K mg) (n : Nat) : Cal P w K mg base (n + 1) "_law_like" (rl__law_likeN n) [] := by
  obtain ⟨fd, F, Fn⟩ := fo__law_like (P := P) (w := w) (base := base) T n
  exact ⟨_, fd, ["told", "due"], [], [], Fn, T.g__law_like, F.kp, F.bindsN fun _ _ _ _ _ _ us hl => match us, hl with | [_, _], _ => rfl, .nil, fun _ => .nil⟩
end Pr

set_option Elab.async false
set_option linter.all false
set_option maxRecDepth 100000
set_option maxHeartbeats 1000000
set_option pp.maxSteps 60
open PySem PySem.Spec PyProof.Rows L2 Sy
namespace Pr
variable {P : Program} {w : World} {K : PySem.W.Frag} {mg : Str → Option Value} {base : Heap}
/-- one of some by the well -/
def rl__law_one : Rl := fun ds M g M' => ∃ q w, M q = some (.lst (wl w)) ∧ 0 ≤ w.1 ∧
  ((∃ es sd, ds = [.raw (.ref q), sd] ∧ (sd = .lst es ∨ sd = .tup es) ∧ 0 < es.length ∧ es.length ≤ 1000 ∧ g = atD es (dip w es.length).1.toNat ∧ M' = updM M q (.lst (wl (dip w es.length).2))) ∨
   (∃ z : Str, ds = [.raw (.ref q), .str z] ∧ 0 < z.length ∧ z.length ≤ 1000 ∧ g = .str ⟨#[(z.cps[(dip w z.length).1.toNat]?).getD 0]⟩ ∧ M' = updM M q (.lst (wl (dip w z.length).2))))
theorem fo__law_one (T : Tx K mg) : ∃ fd, FunD K d__law_one.name d__law_one.qual (defArgs s__law_one) (defBody s__law_one) (defScope s__law_one) (d__law_one.dvs K) (d__law_one.kws K) (He.fAd K d__law_one.at_) fd ∧ FnOk P w K mg base CX0 (1 + 1) (He.fAd K d__law_one.at_) fd ["well", "some"] (spD K rl__law_one) := by
  obtain ⟨fd, F⟩ := T.f__law_one
  have nd := sc__law_one.nd
  refine ⟨fd, F, fn_def F sc__law_one ?_ ?_⟩
  · rintro ds M g M' ⟨q, w, _, _, ⟨es, sd, rfl, _⟩ | ⟨z, rfl, _⟩⟩ <;> rfl
  · rintro cdv A outer s0 H E hr ds M g M' ⟨q, w, hq, hw, ⟨es, sd, rfl, hsd, h1, h2, rfl, rfl⟩ | ⟨z, rfl, h1, h2, rfl, rfl⟩⟩
    · conv => arg 4; whnf
      have lo := dip_lo w (m := es.length) (by omega)
      have hj : (dip w es.length).1.toNat < es.length := by omega
      have hs : ∀ M : MS, SeqOf M sd es := fun M => by
        rcases hsd with rfl | rfl
        · exact .inl (.inl rfl)
        · exact .inr (.inl rfl)
      apply ss_ret
      · apply ev_ix
        · walk_at "ev"
        · apply ev_call (cal__law_dip T) hr (by decide)
          · apply ea_cons
            · walk_at "ev"
            · apply ea_cons
              · apply ev_len
                · walk_at "ea"
                · exact cd_len (hs _)
                · exact T.n_len
                all_goals rfl
              · exact ea_nil
              · rfl
            · rfl
          · exact ⟨q, w, _, rfl, hq, hw, by omega, by omega, rfl, rfl⟩
          all_goals rfl
        · exact oi_seq (hs _) (atI_nn lo.1 (by rw [List.getElem?_eq_getElem hj]))
        · exact fun _ _ => rfl
      · refine ⟨?_, fun _ _ h => h⟩
        rw [atD_of (List.getElem?_eq_getElem hj)]
    · conv => arg 4; whnf
      have lo := dip_lo w (m := z.length) (by omega)
      have hj : (dip w z.length).1.toNat < z.cps.size := by
        have : z.cps.size = z.length := rfl
        omega
      apply ss_ret
      · apply ev_ix
        · walk_at "ev"
        · apply ev_call (cal__law_dip T) hr (by decide)
          · apply ea_cons
            · walk_at "ev"
            · apply ea_cons
              · apply ev_len
                · walk_at "ea"
                · exact cd_lenS (by omega)
                · exact T.n_len
                all_goals rfl
              · exact ea_nil
              · rfl
            · rfl
          · exact ⟨q, w, _, rfl, hq, hw, by omega, by omega, rfl, rfl⟩
          all_goals rfl
        · exact oi_str (c := z.cps[(dip w z.length).1.toNat]) (by omega) (atI_of (n := (dip w z.length).1.toNat) (by simp [hj]) (by omega))
        · exact fun _ _ => rfl
      · refine ⟨?_, fun _ _ h => h⟩
        simp [hj]
theorem cal__law_one (T : Tx K mg) : Cal P w K mg base (1 + 1) "_law_one" rl__law_one [] := by
  obtain ⟨fd, F, Fn⟩ := fo__law_one (P := P) (w := w) (base := base) T
  exact ⟨_, fd, ["well", "some"], [], [], Fn, T.g__law_one, F.kp, F.bindsN fun _ _ _ _ _ _ us hl => match us, hl with | [_, _], _ => rfl, .nil, fun _ => .nil⟩
end Pr

set_option Elab.async false
set_option linter.all false
set_option maxRecDepth 100000
set_option maxHeartbeats 1000000
set_option pp.maxSteps 60
open PySem PySem.Spec PyProof.Rows L2 Sy
local macro_rules | `(tactic| walk_at "set") => `(tactic| (apply ss_set; (walk_at "ev"); assumption; exact ixOf_at rfl; (first | exact Or.inl rfl | exact Or.inr rfl); (first | exact Or.inl rfl | exact Or.inr rfl); rfl))
local macro_rules | `(tactic| walk_at "setN") => `(tactic| (apply ss_setN; (walk_at "en"); assumption; exact ixOf_at rfl; (first | exact Or.inl rfl | exact Or.inr rfl); (first | exact Or.inl rfl | exact Or.inr rfl); rfl))
local macro_rules | `(tactic| walk_at "tg2") => `(tactic| (apply as_tup; rfl; (apply asl_cons; (apply as_name; assumption; exact ixOf_at rfl; (first | exact Or.inl rfl | exact Or.inr rfl); (first | exact Or.inl rfl | exact Or.inr rfl)); (apply asl_cons; (apply as_name; assumption; exact ixOf_at rfl; (first | exact Or.inl rfl | exact Or.inr rfl); (first | exact Or.inl rfl | exact Or.inr rfl)); exact asl_nil; rfl); rfl); rfl; rfl))
local macro_rules | `(tactic| walk_at "tg1") => `(tactic| (apply as_name; assumption; exact ixOf_at rfl; (first | exact Or.inl rfl | exact Or.inr rfl); (first | exact Or.inl rfl | exact Or.inr rfl)))
local macro_rules | `(tactic| walk_at "aug") => `(tactic| (apply ss_augI; assumption; exact ixOf_at rfl; rfl; (walk_at "ev"); (first | exact Or.inl rfl | exact Or.inr rfl); (first | exact Or.inl rfl | exact Or.inr rfl)))
namespace Pr
variable {P : Program} {w : World} {K : PySem.W.Frag} {mg : Str → Option Value} {base : Heap}
/-- the walk's sum up to l -/
def mv (z s l : Int) : Int := ((rgI z l).map fun j => max 0 (s - j)).sum
def wys (k s l m : Int) (n : Nat) : List Int := ((List.range n).map fun a : Nat => ((rgI 0 (k - l + 1)).filter fun h => decide (s ≤ (a : Int) + h)).map fun h => m + h).flatten
theorem rgI_snoc {a b : Int} (h : a ≤ b) : rgI a (b + 1) = rgI a b ++ [b] := by
  unfold rgI
  have e : (b + 1 - a).toNat = (b - a).toNat + 1 := by omega
  rw [e, List.range_succ, List.map_append]
  simp only [List.map_cons, List.map_nil]
  have : a + ((b - a).toNat : Int) = b := by omega
  rw [this]
theorem mv_snoc {z s l : Int} (h : z ≤ l) : mv z s (l + 1) = mv z s l + max 0 (s - l) := by
  unfold mv
  rw [rgI_snoc h, List.map_append, List.sum_append]
  simp
theorem wys_len (k s l m : Int) (n : Nat) (h : k - l + 1 ≤ 20) : (wys k s l m n).length ≤ n * 20 := by
  unfold wys
  induction n with
  | zero => simp
  | succ n ih =>
    rw [List.range_succ, List.map_append, List.flatten_append, List.length_append]
    have : (([n].map fun a : Nat => ((rgI 0 (k - l + 1)).filter fun h => decide (s ≤ (a : Int) + h)).map fun h => m + h).flatten).length ≤ 20 := by
      simp only [List.map_cons, List.map_nil, List.flatten_cons, List.flatten_nil, List.append_nil, List.length_map]
      refine Nat.le_trans (List.length_filter_le _ _) ?_
      rw [len_rgI]; omega
    omega
theorem wys_succ (k s l m : Int) (n : Nat) : wys k s l m (n + 1) = wys k s l m n ++ (((rgI 0 (k - l + 1)).filter fun h => decide (s ≤ (n : Int) + h)).map fun h => m + h) := by
  unfold wys
  rw [List.range_succ, List.map_append, List.flatten_append]
  simp
theorem wys_min {k s l m : Int} (hl : 0 ≤ l) (hk : l ≤ k) (hs : s ≤ k) (hs0 : 0 ≤ s) : (m + max 0 (s - l)) ∈ wys k s l m (l + 1).toNat ∧ ∀ y ∈ wys k s l m (l + 1).toNat, m + max 0 (s - l) ≤ y := by
  unfold wys
  constructor
  · refine List.mem_flatten.mpr ⟨_, List.mem_map.mpr ⟨l.toNat, by simp; omega, rfl⟩, List.mem_map.mpr ⟨max 0 (s - l), List.mem_filter.mpr ⟨mem_rgI.mpr ⟨by omega, by omega⟩, by simp; omega⟩, rfl⟩⟩
  · intro y hy
    obtain ⟨L, hL, hy⟩ := List.mem_flatten.mp hy
    obtain ⟨a, ha, rfl⟩ := List.mem_map.mp hL
    obtain ⟨h, hh, rfl⟩ := List.mem_map.mp hy
    obtain ⟨h1, h2⟩ := List.mem_filter.mp hh
    have := mem_rgI.mp h1
    have h2 := of_decide_eq_true h2
    have ha := List.mem_range.mp ha
    omega
def rl__law_walked : Rl := fun ds M g M' => ∃ k z f s : Int, ds = [.int k, .int z, .int f, .int s] ∧ 0 ≤ z ∧ z ≤ f ∧ f < k ∧ k ≤ 15 ∧ 0 ≤ s ∧ s ≤ k ∧ g = .int (mv z s (f + 1)) ∧ M' = M
theorem rgI_nodup (a b : Int) : (rgI a b).Nodup := by
  unfold rgI
  exact List.pairwise_map.mpr (List.nodup_range.imp fun h e => h (by omega))
theorem fo__law_walked (T : Tx K mg) : ∃ fd, FunD K d__law_walked.name d__law_walked.qual (defArgs s__law_walked) (defBody s__law_walked) (defScope s__law_walked) (d__law_walked.dvs K) (d__law_walked.kws K) (He.fAd K d__law_walked.at_) fd ∧ FnOk P w K mg base CX0 (0 + 1) (He.fAd K d__law_walked.at_) fd ["k", "z", "f", "s"] (spD K rl__law_walked) := by
  obtain ⟨fd, F⟩ := T.f__law_walked
  have nd := sc__law_walked.nd
  refine ⟨fd, F, fn_def F sc__law_walked ?_ ?_⟩
  · rintro ds M g M' ⟨k, z, f, s, rfl, _⟩; rfl
  · rintro cdv A outer s0 H E hr ds M g M' ⟨k, z, f, s, rfl, h1, h2, h3, h4, h5, h6, rfl, rfl⟩
    conv => arg 4; whnf
    have hu : (Bc P w K mg base ["k", "z", "f", "s", "made", "liars", "ways", "asking", "honest"] d__law_walked.qual (defScope s__law_walked) (He.fAd K d__law_walked.at_) cdv A outer s0 H E).A.units + 1 < cLine := by
      have := hr.un
      show (A.deeper (envOfC d__law_walked.qual (defScope s__law_walked) s0.heap.objs.size (He.fAd K d__law_walked.at_) cdv)).units + 1 < cLine
      omega
    apply ss_setD1 4
    · walk_at "ev"
    · walk_at "ev"
    · exact nd
    · rfl
    · exact Or.inr rfl
    · exact Or.inl rfl
    · rfl
    · intro q hq
      apply ss_for (Iv := fun i Γ M2 => M2 = updM M' q (.dk ((rgI z (z + (i : Int) + 1)).map Sum.inl) ((rgI z (z + (i : Int) + 1)).map fun l => .int (mv z s l))) ∧ ∃ x y u, Γ = [some (.int k), some (.int z), some (.int f), some (.int s), some (.raw (.ref q)), x, y, u, none])
        (up := fun i Γ => Γ.set 5 (some (.int (z + (i : Int)))))
      · walk_at "rg2"
      · exact PassesOwn.never
      · rfl
      · exact fun _ => rfl
      · refine ⟨?_, none, none, none, rfl⟩
        have : rgI z (z + ((0 : Nat) : Int) + 1) = [z] := by
          unfold rgI
          have : (z + ((0 : Nat) : Int) + 1 - z).toNat = 1 := by omega
          rw [this]; simp
        rw [this]
        simp [mv, rgI]
      · exact fun _ _ _ _ _ => trivial
      · rintro i Γ M2 hi ⟨_, x, y, u, rfl⟩
        walk_at "tg1"
      · rintro i Γ M2 hi ⟨rfl, x, y, u, rfl⟩
        have hkn : (rgI z (z + (i : Int) + 1))[i]? = some (z + (i : Int)) := get_rgI (by omega)
        have hdn : ((rgI z (z + (i : Int) + 1)).map fun l => D.int (mv z s l))[i]? = some (.int (mv z s (z + (i : Int)))) := by rw [List.getElem?_map, hkn]; rfl
        apply ss_setN
        · apply en_lst
          · exact ea_nil
          · simp
        · exact nd
        · exact ixOf_at rfl
        · first | exact Or.inl rfl | exact Or.inr rfl
        · first | exact Or.inl rfl | exact Or.inr rfl
        · rfl
        intro p hp
        have hpq := ne_of_upd hp
        apply ss_for (Iv := fun j Γ M2 => M2 = updM (updM M' q (.dk ((rgI z (z + (i : Int) + 1)).map Sum.inl) ((rgI z (z + (i : Int) + 1)).map fun l => .int (mv z s l)))) p (.lst ((wys k s (z + (i : Int)) (mv z s (z + (i : Int))) j).map D.int)) ∧ ∃ u, Γ = [some (.int k), some (.int z), some (.int f), some (.int s), some (.raw (.ref q)), some (.int (z + (i : Int))), some (.raw (.ref p)), u, none])
          (up := fun j Γ => Γ.set 7 (some (.int (0 + (j : Int)))))
        · walk_at "rg1"
        · exact PassesOwn.never
        · rfl
        · exact fun _ => rfl
        · exact ⟨rfl, u, rfl⟩
        · exact fun _ _ _ _ _ => trivial
        · rintro j Γ M2 hj ⟨_, u, rfl⟩
          walk_at "tg1"
        · rintro j Γ M2 hj ⟨rfl, u, rfl⟩
          have hw := wys_len k s (z + (i : Int)) (mv z s (z + (i : Int))) j (by omega)
          apply ss_one
          apply s1_expr
          · apply ev_extend
            · walk_at "ev"
            · apply ev_of_new
              apply en_filtR1 (own := [("honest", 8)]) (hi' := k - (z + (i : Int)) + 1) (fun h => D.int (mv z s (z + (i : Int)) + h)) (fun h => decide (s ≤ (j : Int) + h))
              · walk_at "rg1"
              · walk_at "tg"
              walk_at "cx"
              · intro h g1 g2 s1 H1 C cl fp
                refine et_to (t := decide (s ≤ (0 + (j : Int)) + h)) (by walk_at "et") (by rw [Int.zero_add]) rfl
              · intro h g1 g2 s1 H1 C cl fp
                apply ev_bin
                · apply ev_dget
                  · exact hu
                  · walk_at "ev"
                  · walk_at "ev"
                  · rw [updM_ne (Ne.symm hpq)]; exact updM_same
                  · exact rgI_nodup _ _
                  · exact hkn
                  · exact hdn
                  · exact fun _ _ => rfl
                · walk_at "ev"
                · exact od_add
            · exact ⟨_, updM_same⟩
            · exact updM_same
            · exact .inl rfl
            · simp only [List.length_map]
              have := List.length_filter_le (fun h => decide (s ≤ (j : Int) + h)) (rgI 0 (k - (z + (i : Int)) + 1))
              rw [len_rgI] at this
              omega
            all_goals rfl
          · rfl
          · refine ⟨?_, some (.int (0 + (j : Int))), rfl⟩
            rw [updM_updM, wys_succ, List.map_append]
            simp [List.map_map, Function.comp_def]
        · rintro Γ M2 ⟨rfl, u, rfl⟩
          have hmin := wys_min (k := k) (s := s) (l := z + (i : Int)) (m := mv z s (z + (i : Int))) (by omega) (by omega) h6 h5
          apply ss_dput hu (i := z + (i : Int) + 1)
          · apply ev_min
            · walk_at "ea"
            · exact cd_minL rfl (.inr (.inr ⟨p, rfl, updM_same⟩)) hmin.1 hmin.2
            · exact T.n_min
            all_goals rfl
          · walk_at "ev"
          · walk_at "ev"
          · rw [updM_ne (Ne.symm hpq)]; exact updM_same
          · intro h
            have := mem_rgI.mp h
            omega
          · rw [len_rgI]; omega
          · rfl
          · apply ss_less (M' := updM M' q (.dk ((rgI z (z + (((i + 1 : Nat)) : Int) + 1)).map Sum.inl) ((rgI z (z + ((i + 1 : Nat) : Int) + 1)).map fun l => .int (mv z s l))))
            · apply ss_nil
              exact ⟨rfl, _, _, _, rfl⟩
            · intro a o ho
              have c1 : z + ((i + 1 : Nat) : Int) + 1 = z + (i : Int) + 1 + 1 := by omega
              rw [c1, rgI_snoc (by omega), List.map_append (f := fun l => D.int (mv z s l))] at ho
              have c2 : mv z s (z + (i : Int) + 1) = mv z s (z + (i : Int)) + max 0 (s - (z + (i : Int))) := mv_snoc (by omega)
              by_cases ha : a = q
              · subst ha
                rw [updM_same] at ho ⊢
                simpa [c2] using ho
              · rw [updM_ne ha] at ho ⊢
                have : a ≠ p := fun zz => by
                  rw [zz, of_updN hp] at ho
                  cases ho
                rw [updM_ne this, updM_ne ha]
                exact ho
      · rintro Γ M2 ⟨rfl, x, y, u, rfl⟩
        have hkn : (rgI z (z + ((f + 1 - z).toNat : Int) + 1))[(f + 1 - z).toNat]? = some (f + 1) := by
          rw [get_rgI (by omega)]
          congr 1; omega
        apply ss_ret
        · apply ev_dget hu
          · walk_at "ev"
          · walk_at "ev"
          · exact updM_same
          · exact rgI_nodup _ _
          · exact hkn
          · rw [List.getElem?_map, hkn]; rfl
          · exact fun _ _ => rfl
        · exact ⟨rfl, keep_upd hq⟩
theorem cal__law_walked (T : Tx K mg) : Cal P w K mg base (0 + 1) "_law_walked" rl__law_walked [] := by
  obtain ⟨fd, F, Fn⟩ := fo__law_walked (P := P) (w := w) (base := base) T
  exact ⟨_, fd, ["k", "z", "f", "s"], [], [], Fn, T.g__law_walked, F.kp, F.bindsN fun _ _ _ _ _ _ us hl => match us, hl with | [_, _, _, _], _ => rfl, .nil, fun _ => .nil⟩
end Pr

set_option Elab.async false
set_option linter.all false
set_option maxRecDepth 100000
set_option maxHeartbeats 3000000
set_option pp.maxSteps 60
open PySem PySem.Spec PyProof.Rows L2 Sy
local macro_rules | `(tactic| walk_at "bin") => `(tactic| first
  | exact od_add | exact od_sub | exact od_mulL (by walk_at "num") | exact od_mulR (by walk_at "num") | exact od_mod (by walk_at "num") | exact od_fdiv (by walk_at "num") | exact od_pow (by walk_at "num")
  | exact od_addT (by first | (focus (simp; done)) | (focus (simp; omega)) | omega) | exact od_addS (by first | assumption | omega) | exact od_mulS (by omega) (by omega) (by first | assumption | decide))
local macro_rules | `(tactic| walk_at "ev") => `(tactic| first
  | exact ev_int | exact ev_str | exact ev_non | exact ev_bl
  | exact ev_nm rfl rfl (by walk_at "rf") (by decide) (by decide)
  | (apply ev_bin; (walk_at "ev"); (walk_at "ev"); (walk_at "bin"))
  | (apply ev_cmp; (walk_at "ev"); (walk_at "ev"); (walk_at "cmp"); (walk_at "mark"))
  | (apply ev_not; (walk_at "ev"))
  | (apply ev_neg; (walk_at "ev"))
  | (apply ev_tup; (walk_at "ea"); (focus (simp; done)))
  | (apply ev_one; (walk_at "ev"))
  | (apply ev_andB; (walk_at "ev"); (intro _; walk_at "ev"))
  | (apply ev_orB; (walk_at "ev"); (intro _; walk_at "ev"))
  | (apply ev_chain; (walk_at "ev"); (walk_at "ev"); (walk_at "cmp"); (intro _; walk_at "ev"); (intro _; walk_at "cmp"); (walk_at "mark"))
  | walk_at "ix" | walk_at "callx" | walk_at "namex" | walk_at "fld"
  | (apply ev_of_new; walk_at "en"))
local macro_rules | `(tactic| walk_at "en") => `(tactic| first
  | (apply en_lst; (walk_at "ea"); (focus (simp; done)))
  | (apply en_Tlist; (walk_at "ea"); exact cn_list (by walk_at "seq"); exact (Pr.Tx.n_list (by assumption)); rfl; rfl; rfl)
  | (apply en_bin; (walk_at "ev"); (walk_at "ev"); (first | exact on_addL (by walk_at "lstT") (by walk_at "lstT") (by first | (focus (simp; done)) | (focus (simp; omega)) | omega) | exact on_rep (by walk_at "lstT") (by omega) (by omega) (by first | (focus (simp; done)) | omega)))
  | (apply en_sl; (walk_at "ev"); (walk_at "eo"); (walk_at "eo"); (walk_at "lst"))
  | (apply en_rev; (walk_at "ev"); (walk_at "lst"))
  | walk_at "compx")
local macro_rules | `(tactic| walk_at "cn") => `(tactic| first | omega | (focus (simp; omega)))
namespace Pr
variable {P : Program} {w : World} {K : PySem.W.Frag} {mg : Str → Option Value} {base : Heap}
def rl__law_is_tale : Rl := rl_is_breaking
theorem fo__law_is_tale (T : Tx K mg) : ∃ fd, FunD K d__law_is_tale.name d__law_is_tale.qual (defArgs s__law_is_tale) (defBody s__law_is_tale) (defScope s__law_is_tale) (d__law_is_tale.dvs K) (d__law_is_tale.kws K) (He.fAd K d__law_is_tale.at_) fd ∧ FnOk P w K mg base CX0 (0 + 1) (He.fAd K d__law_is_tale.at_) fd ["k", "z", "f", "s", "most", "value"] (spD K rl__law_is_tale) := by
  obtain ⟨fd, F⟩ := T.f__law_is_tale
  have nd := sc__law_is_tale.nd
  refine ⟨fd, F, fn_def F sc__law_is_tale ?_ ?_⟩
  · rintro ds M g M' ⟨k, z, f, s, most, v, rfl, _⟩; rfl
  · rintro cdv A outer s0 H E hr ds M g M' ⟨k, z, f, s, most, v, rfl, ⟨hv, hrows⟩, rfl, rfl⟩
    conv => arg 4; whnf
    have hk := D.pl.kn hv
    by_cases ht : v.isTu = true
    · cases v <;> first | (simp [D.isTu] at ht; done) | (simp [D.pl] at hv; done) | skip
      rename_i rows
      obtain ⟨hl, hr1⟩ := hrows rows rfl
      apply ss_ifR
      · walk_at "et"
      · intro e
        apply ss_ret
        · exact ev_bl
        · refine ⟨?_, fun _ _ h => h⟩
          have e2 : ¬ (rows.length : Int) = f + 1 - z := by simpa [D.isTu] using e
          simp [isBr, e2]
      · intro e
        have e2 : (rows.length : Int) = f + 1 - z := by simpa [D.isTu] using e
        have hg : isBr k z f s most (.tup rows) = (match rowsOk k z s rows 0 0 with | none => false | some m => decide (m ≤ most)) := by
          simp only [isBr, e2, decide_true, Bool.true_and] <;> rfl
        walk_at "set"
        apply ss_for (Iv := fun i Γ M2 => M2 = M' ∧ ∃ (made : Int) (x y u : Option D), Γ = [some (.int k), some (.int z), some (.int f), some (.int s), some (.int most), some (.tup rows), some (.int made), x, y, u, none] ∧ rowsOk k z s (rows.drop i) i made = rowsOk k z s rows 0 0)
          (up := fun i Γ => Γ.set 7 (some (.int (0 + (i : Int)))))
        · walk_at "rg1"
        · exact PassesOwn.never
        · rfl
        · exact fun _ => rfl
        · exact ⟨rfl, 0, none, none, none, rfl, rfl⟩
        · exact fun _ _ _ _ _ => trivial
        · rintro i Γ M2 hi ⟨rfl, made, x, y, u, rfl, _⟩
          walk_at "tg1"
        · rintro i Γ M2 hi ⟨rfl, made, x, y, u, rfl, hm⟩
          obtain ⟨d, hd⟩ : ∃ d, rows[i]? = some d := ⟨rows[i]'(by simpa using hi), List.getElem?_eq_getElem (by simpa using hi)⟩
          have hi : (i : Nat) < rows.length := by simpa using hi
          have hat : atI rows (0 + (i : Int)) = some d := atI_of hd (by omega)
          obtain ⟨hpd, hes⟩ := hr1 d (List.mem_of_getElem? hd)
          have hkd := D.pl.kn hpd
          have bad : rowOk k z s i d = none → (owes (.bl (isBr k z f s most (.tup rows))) M2).rt (.bl false) M2 := fun h => by
            refine ⟨?_, fun _ _ h => h⟩
            rw [hg, ← hm, rowsOk_drop hd, h]
          by_cases htd : d.isTu = true
          · cases d <;> first | (simp [D.isTu] at htd; done) | (simp [D.pl] at hpd; done) | skip
            rename_i es
            obtain ⟨hel, hee⟩ := hes es rfl
            by_cases h2 : es.length = 2
            · match es, h2, hd, hee with
              | [x1, x2], h2', hd, hee =>
                have k1 := D.pl.kn (hee x1 (by simp))
                have k2 := D.pl.kn (hee x2 (by simp))
                refine ss_ifF (M' := M2) (t := false) (et_w (ew_orF (et_toF (by walk_at "et") (by rfl)) (ew_or1 (et_toF (by walk_at "et") (by rfl))))) rfl ?_
                walk_at "asg2"
                apply ss_ifR (M' := M2) (t := !((isNum .non x1 && isNum .non x2)))
                · refine et_not (et_of ?_ fun _ => rfl)
                  refine ev_to (g := .bl (([isNum .non x1, isNum .non x2]).all id)) ?_ (by simp) rfl
                  apply ev_all
                  · apply ea_cons
                    · apply ev_of_new
                      apply en_mapL (own := [("one", 10)]) (M1 := M2) (fun d => D.bl (isNum .non d))
                      · apply it_tup
                        · walk_at "ev"
                        · exact Or.inl rfl
                      · walk_at "tg"
                      walk_at "blk"
                      rfl
                      assumption
                      exact fun _ => rfl
                      simp
                      trivial
                      exact fun _ _ => trivial
                      · intro e he s H C cl fp
                        have ke := D.pl.kn (hee e he)
                        by_cases e1 : e.isI = true
                        · by_cases e2 : e.isB = true
                          · have : isNum .non e = false := by cases e <;> first | rfl | (simp [D.isB] at e2; done)
                            rw [this]
                            exact ev_andT (ev_to (by walk_at "ev") (by rw [e1]) rfl) (ev_andF (ev_to (by walk_at "ev") (by rw [e2]; rfl) rfl))
                          · cases e <;> first | (simp [D.isI] at e1; done) | (simp [D.isB] at e2; done) | skip
                            refine ev_to (by walk_at "ev") ?_ rfl
                            simp [isNum, D.isI, D.isB]
                        · have : isNum .non e = false := by cases e <;> first | rfl | (simp [D.isI] at e1; done)
                          rw [this]
                          have e1 : e.isI = false := by simpa using e1
                          exact ev_andF (ev_to (by walk_at "ev") (by rw [e1]) rfl)
                    · exact ea_nil
                    · rfl
                  · exact cd_all rfl (.inl rfl)
                  · exact T.n_all
                  all_goals rfl
                · intro e
                  apply ss_ret
                  · exact ev_bl
                  · refine bad ?_
                    cases x1 <;> first | (simp [rowOk]; done) | skip
                    cases x2 <;> first | (simp [rowOk]; done) | skip
                    rename_i a b
                    simp [isNum] at e
                    simp only [rowOk]
                    rw [if_neg]
                    intro h
                    omega
                · intro e
                  cases x1 <;> first | (simp [isNum] at e; done) | skip
                  cases x2 <;> first | (simp [isNum] at e; done) | skip
                  rename_i a b
                  obtain ⟨ea, eb⟩ : 0 ≤ a ∧ 0 ≤ b := by simpa [isNum] using e
                  apply ss_ifR
                  · walk_at "et"
                  · intro e2
                    apply ss_ret
                    · exact ev_bl
                    · refine bad ?_
                      simp only [rowOk]
                      rw [if_neg]
                      intro h
                      simp at e2
                      omega
                  · intro e2
                    walk_at "set"
                    apply ss_nil
                    refine ⟨rfl, made + b, _, _, _, rfl, ?_⟩
                    rw [← hm, rowsOk_drop hd]
                    have : rowOk k z s i (.tup [.int a, .int b]) = some b := by
                      simp only [rowOk]
                      rw [if_pos]
                      simp at e2
                      omega
                    rw [this]
                    have c1 : ((i + 1 : Nat) : Int) = (i : Int) + 1 := by omega
                    rw [c1]
            · refine ss_ifR (M' := M2) (t := true) (et_w (ew_orF (et_toF (by walk_at "et") (by rfl)) (ew_or1 (et_toT (by walk_at "et") ?_)))) (fun _ => ?_) (fun e => nomatch e)
              · have : ¬ (es.length : Int) = 2 := by omega
                simp [this]
              · apply ss_ret
                · exact ev_bl
                · refine bad ?_
                  match es, h2 with
                  | [], _ => simp [rowOk]
                  | [_], _ => simp [rowOk]
                  | _ :: _ :: _ :: _, _ => simp [rowOk]
          · have htd : d.isTu = false := by simpa using htd
            refine ss_ifR (M' := M2) (t := true) (et_w (ew_orT (et_toT (t := !d.isTu) ?_ (by rw [htd]; rfl)))) (fun _ => ?_) (fun e => nomatch e)
            · walk_at "et"
            · apply ss_ret
              · exact ev_bl
              · refine bad ?_
                cases d <;> first | (simp [rowOk]; done) | (simp [D.isTu] at htd; done)
        · rintro Γ M2 ⟨rfl, made, x, y, u, rfl, hm⟩
          have c0 : ((rows.length : Int)).toNat = rows.length := Int.toNat_natCast _
          rw [c0, List.drop_length] at hm
          apply ss_ret
          · walk_at "ev"
          · refine ⟨?_, fun _ _ h => h⟩
            rw [hg, ← hm]
            rfl
    · have ht : v.isTu = false := by simpa using ht
      refine ss_ifR (M' := M') (t := true) (et_w (ew_orT (et_toT (t := !v.isTu) ?_ (by rw [ht]; rfl)))) (fun _ => ?_) (fun e => nomatch e)
      · walk_at "et"
      · apply ss_ret
        · exact ev_bl
        · refine ⟨?_, fun _ _ h => h⟩
          cases v <;> first | rfl | cases ht
theorem cal__law_is_tale (T : Tx K mg) : Cal P w K mg base (0 + 1) "_law_is_tale" rl__law_is_tale [] := by
  obtain ⟨fd, F, Fn⟩ := fo__law_is_tale (P := P) (w := w) (base := base) T
  exact ⟨_, fd, ["k", "z", "f", "s", "most", "value"], [], [], Fn, T.g__law_is_tale, F.kp, F.bindsN fun _ _ _ _ _ _ us hl => match us, hl with | [_, _, _, _, _, _], _ => rfl, .nil, fun _ => .nil⟩
end Pr

set_option Elab.async false
set_option linter.all false
set_option maxRecDepth 100000
set_option maxHeartbeats 1000000
set_option pp.maxSteps 60
open PySem PySem.Spec PyProof.Rows L2 Sy
namespace Pr
variable {P : Program} {w : World} {K : PySem.W.Frag} {mg : Str → Option Value} {base : Heap}
def pr (p : Int × Int) : D := .tup [.int p.1, .int p.2]
def L1 (a b : Int) : List D := [pr (a + 1, b), pr (a, b + 1), pr (a - 1, b), pr (a, b - 1), pr (b, a), .lst [.int a, .int b], .tup [.int a], .non, .tup [.int a, .non]]
def L2 (r : D) (a b : Int) : List D := [r, r, .tup [.int a, .int b, .int 0], .tup [.bl true, .int b], .tup [.int a, .str (toString b)], pr (0, a + b), pr (a + b, 0)]
def mid (rows : List D) (at_ : Int) (row : D) : D := .tup (Sy.cutD rows none (some at_) ++ [row] ++ Sy.cutD rows (some (at_ + 1)) none)
def L3 (rows : List D) (at_ : Int) (row : D) : List D := [.non, .lst rows, .tup (Sy.cutD rows (some 1) none), .tup (rows ++ Sy.cutD rows none (some 1)), .tup rows.reverse] ++ (List.replicate (5 : Int).toNat [mid rows at_ row]).flatten
def b1 (ps : List (Int × Int)) (v : W3) : Int × W3 := dip v ps.length
def bp (ps : List (Int × Int)) (v : W3) : Int × Int := (ps[(b1 ps v).1.toNat]?).getD (0, 0)
def b2 (ps : List (Int × Int)) (v : W3) : D := atD (L1 (bp ps v).1 (bp ps v).2) (dip (b1 ps v).2 9).1.toNat
def b3 (ps : List (Int × Int)) (v : W3) : D := atD (L2 (b2 ps v) (bp ps v).1 (bp ps v).2) (dip (dip (b1 ps v).2 9).2 7).1.toNat
def bent (ps : List (Int × Int)) (v : W3) : D × W3 := (atD (L3 (ps.map pr) (b1 ps v).1 (b3 ps v)) (dip (dip (dip (b1 ps v).2 9).2 7).2 10).1.toNat, (dip (dip (dip (b1 ps v).2 9).2 7).2 10).2)
theorem bent_inv {ps : List (Int × Int)} {v : W3} (hp : 0 < ps.length) (h : 0 ≤ v.1) : 0 ≤ (bent ps v).2.1 := dip_inv (by decide) (dip_inv (by decide) (dip_inv (by decide) (dip_inv (by omega) h)))
theorem cut_len (ds : List D) (l u : Option Int) : (Sy.cutD ds l u).length ≤ ds.length := by
  unfold Sy.cutD
  rw [List.length_take, List.length_drop]
  omega
theorem cut_mem {ds : List D} {l u : Option Int} {d : D} (h : d ∈ Sy.cutD ds l u) : d ∈ ds := List.mem_of_mem_drop (List.mem_of_mem_take h)
def rowG (r : D) : Prop := D.pl r = true ∧ ∀ es, r = .tup es → es.length ≤ 1000 ∧ ∀ e ∈ es, D.pl e = true
theorem rowG_tup {es : List D} (h : es.length ≤ 1000) (h2 : es.all D.pl = true) : rowG (.tup es) := ⟨rfl, fun es' e => by cases e; exact ⟨h, fun x hx => List.all_eq_true.mp h2 x hx⟩⟩
theorem rowG_pr (p : Int × Int) : rowG (pr p) := rowG_tup (by simp) (by simp [D.pl])
theorem atD_mem {ds : List D} {i : Nat} (h : i < ds.length) : atD ds i ∈ ds := by rw [atD_of (List.getElem?_eq_getElem h)]; exact List.getElem_mem h
theorem b2_ok (ps : List (Int × Int)) (v : W3) : rowG (b2 ps v) := by
  have lo := dip_lo (b1 ps v).2 (m := 9) (by decide)
  have h := atD_mem (ds := L1 (bp ps v).1 (bp ps v).2) (i := (dip (b1 ps v).2 9).1.toNat) (by show _ < 9; omega)
  unfold b2
  generalize atD _ _ = d at h ⊢
  simp only [L1, List.mem_cons, List.not_mem_nil, or_false] at h
  rcases h with rfl | rfl | rfl | rfl | rfl | rfl | rfl | rfl | rfl
  · exact rowG_pr _
  · exact rowG_pr _
  · exact rowG_pr _
  · exact rowG_pr _
  · exact rowG_pr _
  · exact ⟨rfl, fun es e => by cases e⟩
  · exact rowG_tup (by simp) (by simp [D.pl])
  · exact ⟨rfl, fun es e => by cases e⟩
  · exact rowG_tup (by simp) (by simp [D.pl])
theorem b3_ok (ps : List (Int × Int)) (v : W3) : rowG (b3 ps v) := by
  have lo := dip_lo (dip (b1 ps v).2 9).2 (m := 7) (by decide)
  have h := atD_mem (ds := L2 (b2 ps v) (bp ps v).1 (bp ps v).2) (i := (dip (dip (b1 ps v).2 9).2 7).1.toNat) (by show _ < 7; omega)
  have hb := b2_ok ps v
  unfold b3
  generalize atD _ _ = d at h ⊢
  simp only [L2, List.mem_cons, List.not_mem_nil, or_false] at h
  rcases h with rfl | rfl | rfl | rfl | rfl | rfl | rfl
  · exact hb
  · exact hb
  · exact rowG_tup (by simp) (by simp [D.pl])
  · exact rowG_tup (by simp) (by simp [D.pl])
  · exact rowG_tup (by simp) (by simp [D.pl])
  · exact rowG_pr _
  · exact rowG_pr _
theorem valOk_tup {rows : List D} (h : rows.length ≤ 1000) (h2 : ∀ r ∈ rows, rowG r) : valOk (.tup rows) := ⟨rfl, fun rs e => by cases e; exact ⟨h, h2⟩⟩
theorem bent_ok {ps : List (Int × Int)} (v : W3) (hp : ps.length ≤ 100) : valOk (bent ps v).1 := by
  have lo := dip_lo (dip (dip (b1 ps v).2 9).2 7).2 (m := 10) (by decide)
  have h := atD_mem (ds := L3 (ps.map pr) (b1 ps v).1 (b3 ps v)) (i := (dip (dip (dip (b1 ps v).2 9).2 7).2 10).1.toNat) (by show _ < 10; omega)
  have hb := b3_ok ps v
  have hl : (ps.map pr).length = ps.length := List.length_map ..
  have hr : ∀ r ∈ ps.map pr, rowG r := fun r hr => by obtain ⟨p, _, rfl⟩ := List.mem_map.mp hr; exact rowG_pr p
  unfold bent
  simp only
  generalize atD _ _ = d at h ⊢
  have h5 : (List.replicate (5 : Int).toNat [mid (ps.map pr) (b1 ps v).1 (b3 ps v)]).flatten = [mid (ps.map pr) (b1 ps v).1 (b3 ps v), mid (ps.map pr) (b1 ps v).1 (b3 ps v), mid (ps.map pr) (b1 ps v).1 (b3 ps v), mid (ps.map pr) (b1 ps v).1 (b3 ps v), mid (ps.map pr) (b1 ps v).1 (b3 ps v)] := rfl
  simp only [L3, h5, List.mem_append, List.mem_cons, List.not_mem_nil, or_false] at h
  have hm : valOk (mid (ps.map pr) (b1 ps v).1 (b3 ps v)) := by
    refine valOk_tup ?_ fun r hr' => ?_
    · have h1 := cut_len (ps.map pr) none (some (b1 ps v).1)
      have h2 := cut_len (ps.map pr) (some ((b1 ps v).1 + 1)) none
      simp only [List.length_append, List.length_singleton]
      omega
    · rcases List.mem_append.mp hr' with hr' | hr'
      · rcases List.mem_append.mp hr' with hr' | hr'
        · exact hr r (cut_mem hr')
        · rw [List.mem_singleton.mp hr']; exact hb
      · exact hr r (cut_mem hr')
  rcases h with (rfl | rfl | rfl | rfl | rfl) | (rfl | rfl | rfl | rfl | rfl)
  · exact ⟨rfl, fun es e => by cases e⟩
  · exact ⟨rfl, fun es e => by cases e⟩
  · refine valOk_tup ?_ fun r h => hr r (cut_mem h)
    have h2 := cut_len (ps.map pr) (some 1) none
    omega
  · refine valOk_tup ?_ fun r h => ?_
    · have h2 := cut_len (ps.map pr) none (some 1)
      simp only [List.length_append]
      omega
    · rcases List.mem_append.mp h with h | h
      · exact hr r h
      · exact hr r (cut_mem h)
  · refine valOk_tup (by rw [List.length_reverse]; omega) fun r h => hr r (List.mem_reverse.mp h)
  all_goals exact hm
def rl__law_bent : Rl := fun ds M g M' => ∃ (q : Addr) (v : W3) (ps : List (Int × Int)), ds = [.raw (.ref q), .tup (ps.map pr)] ∧ M q = some (.lst (wl v)) ∧ 0 ≤ v.1 ∧ 0 < ps.length ∧ ps.length ≤ 100 ∧ (∀ p ∈ ps, p.2.natAbs ≤ 1000) ∧ g = (bent ps v).1 ∧ M' = updM M q (.lst (wl (bent ps v).2))
theorem log_small {b : Int} (h : b.natAbs ≤ 1000) : b.natAbs.log2 < 1920 := by
  by_cases h0 : b.natAbs = 0
  · rw [h0]; decide
  · rw [Nat.log2_lt h0]
    exact Nat.lt_of_le_of_lt h (by decide +kernel)
theorem fo__law_bent (T : Tx K mg) : ∃ fd, FunD K d__law_bent.name d__law_bent.qual (defArgs s__law_bent) (defBody s__law_bent) (defScope s__law_bent) (d__law_bent.dvs K) (d__law_bent.kws K) (He.fAd K d__law_bent.at_) fd ∧ FnOk P w K mg base CX0 (2 + 1) (He.fAd K d__law_bent.at_) fd ["well", "tale"] (spD K rl__law_bent) := by
  obtain ⟨fd, F⟩ := T.f__law_bent
  have nd := sc__law_bent.nd
  refine ⟨fd, F, fn_def F sc__law_bent ?_ ?_⟩
  · rintro ds M g M' ⟨q, v, ps, rfl, _⟩; rfl
  · rintro cdv A outer s0 H E hr ds M g M' ⟨q, v, ps, rfl, hq, hv, h1, h2, hlo, rfl, rfl⟩
    conv => arg 4; whnf
    have hl : (ps.map pr).length = ps.length := List.length_map ..
    have lo := dip_lo v (m := ps.length) (by omega)
    have hj : (b1 ps v).1.toNat < ps.length := by unfold b1; omega
    have hat : atI (ps.map pr) (b1 ps v).1 = some (pr (bp ps v)) := by
      refine atI_nn lo.1 ?_
      rw [List.getElem?_map]
      unfold bp
      rw [List.getElem?_eq_getElem hj]; rfl
    have hb : (bp ps v).2.natAbs ≤ 1000 := by
      refine hlo _ ?_
      unfold bp
      rw [List.getElem?_eq_getElem hj]
      exact List.getElem_mem hj
    have hlog := log_small hb
    have v1 : 0 ≤ (b1 ps v).2.1 := dip_inv (by omega) hv
    have v2 : 0 ≤ (dip (b1 ps v).2 9).2.1 := dip_inv (by decide) v1
    have v3 : 0 ≤ (dip (dip (b1 ps v).2 9).2 7).2.1 := dip_inv (by decide) v2
    apply ss_set 2 (g := .int (b1 ps v).1) (M' := updM M q (.lst (wl (b1 ps v).2)))
    · apply ev_call (cal__law_dip T) hr (by decide)
      · apply ea_cons
        · walk_at "ev"
        · apply ea_cons
          · apply ev_to2
            · apply ev_len
              · walk_at "ea"
              · exact cd_len (.inr (.inl rfl))
              · exact T.n_len
              all_goals rfl
            · rw [hl]
          · exact ea_nil
          · rfl
        · rfl
      · exact ⟨q, v, _, rfl, hq, hv, by omega, by omega, rfl, rfl⟩
      all_goals rfl
    · exact nd
    · rfl
    · exact Or.inl rfl
    · exact Or.inl rfl
    · rfl
    apply ss_asg (g := .tup [.int (bp ps v).1, .int (bp ps v).2]) (M' := updM M q (.lst (wl (b1 ps v).2)))
    · apply ev_ix
      · walk_at "ev"
      · walk_at "ev"
      · exact oi_tup (.inl rfl) hat
      · exact fun _ _ => rfl
    · walk_at "tg2"
    · rfl
    · rfl
    · rfl
    apply ss_set 5 (g := b2 ps v) (M' := updM M q (.lst (wl (dip (b1 ps v).2 9).2)))
    · apply ev_toM
      · apply ev_call (cal__law_one T) hr (by decide)
        · walk_at "ea"
        · exact ⟨q, _, updM_same, v1, .inl ⟨L1 (bp ps v).1 (bp ps v).2, _, rfl, .inl rfl, by show 0 < 9; decide, by show 9 ≤ 1000; decide, rfl, rfl⟩⟩
        all_goals rfl
      · exact updM_updM
    · exact nd
    · rfl
    · exact Or.inl rfl
    · exact Or.inl rfl
    · rfl
    apply ss_set 5 (g := b3 ps v) (M' := updM M q (.lst (wl (dip (dip (b1 ps v).2 9).2 7).2)))
    · apply ev_toM
      · apply ev_call (cal__law_one T) hr (by decide)
        · walk_at "ea"
        · exact ⟨q, _, updM_same, v2, .inl ⟨L2 (b2 ps v) (bp ps v).1 (bp ps v).2, _, rfl, .inl rfl, by show 0 < 7; decide, by show 7 ≤ 1000; decide, rfl, rfl⟩⟩
        all_goals rfl
      · exact updM_updM
    · exact nd
    · rfl
    · exact Or.inl rfl
    · exact Or.inl rfl
    · rfl
    apply ss_ret (g := (bent ps v).1) (M' := updM M q (.lst (wl (bent ps v).2)))
    · apply ev_toM
      · apply ev_call (cal__law_one T) hr (by decide)
        · apply ea_cons
          · walk_at "ev"
          · apply ea_cons (g := .lst (L3 (ps.map pr) (b1 ps v).1 (b3 ps v)))
            · apply ev_of_new
              apply en_bin (ga := .lst [.non, .lst (ps.map pr), .tup (Sy.cutD (ps.map pr) (some 1) none), .tup (ps.map pr ++ Sy.cutD (ps.map pr) none (some 1)), .tup (ps.map pr).reverse]) (gb := .lst (List.replicate (5 : Int).toNat [mid (ps.map pr) (b1 ps v).1 (b3 ps v)]).flatten)
              · apply ev_of_new
                apply en_lst
                · apply ea_cons
                  · walk_at "ev"
                  · apply ea_cons
                    · walk_at "ev"
                    · apply ea_cons
                      · apply ev_slT
                        · walk_at "ev"
                        · walk_at "eo"
                        · walk_at "eo"
                        · rfl
                      · apply ea_cons
                        · apply ev_bin
                          · walk_at "ev"
                          · apply ev_slT
                            · walk_at "ev"
                            · walk_at "eo"
                            · walk_at "eo"
                            · rfl
                          · have h2 := cut_len (ps.map pr) none (some 1)
                            exact od_addT (by omega)
                        · apply ea_cons
                          · apply ev_revT
                            · walk_at "ev"
                            · exact Or.inl rfl
                          · exact ea_nil
                          · rfl
                        · rfl
                      · rfl
                    · rfl
                  · rfl
                · simp
              · apply ev_of_new
                apply en_bin (ga := .lst [mid (ps.map pr) (b1 ps v).1 (b3 ps v)]) (gb := .int 5)
                · apply ev_of_new
                  apply en_lst
                  · apply ea_cons
                    · apply ev_bin (ga := .tup (Sy.cutD (ps.map pr) none (some (b1 ps v).1) ++ [b3 ps v])) (gb := .tup (Sy.cutD (ps.map pr) (some ((b1 ps v).1 + 1)) none))
                      · apply ev_bin
                        · apply ev_slT
                          · walk_at "ev"
                          · walk_at "eo"
                          · walk_at "eo"
                          · rfl
                        · walk_at "ev"
                        · have h2 := cut_len (ps.map pr) none (some (b1 ps v).1)
                          exact od_addT (by simp only [List.length_singleton]; omega)
                      · apply ev_slT
                        · walk_at "ev"
                        · walk_at "eo"
                        · walk_at "eo"
                        · rfl
                      · have h2 := cut_len (ps.map pr) none (some (b1 ps v).1)
                        have h3 := cut_len (ps.map pr) (some ((b1 ps v).1 + 1)) none
                        exact od_addT (by simp only [List.length_append, List.length_singleton]; omega)
                    · exact ea_nil
                    · rfl
                  · simp
                · walk_at "ev"
                · exact on_rep (.inl rfl) (by decide) (by decide) (by simp)
              · exact on_addL (.inl rfl) (.inl rfl) (by show 5 + 5 ≤ 100000; decide)
            · exact ea_nil
            · rfl
          · rfl
        · exact ⟨q, _, updM_same, v3, .inl ⟨L3 (ps.map pr) (b1 ps v).1 (b3 ps v), _, rfl, .inl rfl, by show 0 < 10; decide, by show 10 ≤ 1000; decide, rfl, rfl⟩⟩
        all_goals rfl
      · exact updM_updM
    · exact ⟨rfl, fun _ _ h => h⟩
theorem cal__law_bent (T : Tx K mg) : Cal P w K mg base (2 + 1) "_law_bent" rl__law_bent [] := by
  obtain ⟨fd, F, Fn⟩ := fo__law_bent (P := P) (w := w) (base := base) T
  exact ⟨_, fd, ["well", "tale"], [], [], Fn, T.g__law_bent, F.kp, F.bindsN fun _ _ _ _ _ _ us hl => match us, hl with | [_, _], _ => rfl, .nil, fun _ => .nil⟩
end Pr

set_option Elab.async false
set_option linter.all false
set_option maxRecDepth 100000
set_option maxHeartbeats 1000000
set_option pp.maxSteps 60
open PySem PySem.Spec PyProof.Rows L2 Sy
namespace Pr
variable {P : Program} {w : World} {K : PySem.W.Frag} {mg : Str → Option Value} {base : Heap}
/-- a letter -/
def chr (i : Int) : Str := ⟨#[97 + i.toNat]⟩
def abc : Str := "abcdefghijklmnopqrstuvwxyz"
theorem abc_at {i : Int} (h0 : 0 ≤ i) (h1 : i < 26) : (⟨#[(abc.cps[i.toNat]?).getD 0]⟩ : Str) = chr i := by
  have : i = 0 ∨ i = 1 ∨ i = 2 ∨ i = 3 ∨ i = 4 ∨ i = 5 ∨ i = 6 ∨ i = 7 ∨ i = 8 ∨ i = 9 ∨ i = 10 ∨ i = 11 ∨ i = 12 ∨ i = 13 ∨ i = 14 ∨ i = 15 ∨ i = 16 ∨ i = 17 ∨ i = 18 ∨ i = 19 ∨ i = 20 ∨ i = 21 ∨ i = 22 ∨ i = 23 ∨ i = 24 ∨ i = 25 := by omega
  rcases this with rfl | rfl | rfl | rfl | rfl | rfl | rfl | rfl | rfl | rfl | rfl | rfl | rfl | rfl | rfl | rfl | rfl | rfl | rfl | rfl | rfl | rfl | rfl | rfl | rfl | rfl <;> decide +kernel
end Pr

set_option Elab.async false
set_option linter.all false
set_option maxRecDepth 100000
set_option maxHeartbeats 1000000
set_option pp.maxSteps 60
open PySem PySem.Spec PyProof.Rows L2 Sy
namespace Pr
variable {P : Program} {w : World} {K : PySem.W.Frag} {mg : Str → Option Value} {base : Heap}
def nm1 (m : Int) (v : W3) : W3 := if m < 7 then (dip v 4).2 else v
def nmS (fr : Str) (v : W3) : Nat → List Str × W3
  | 0 => ([], v)
  | i + 1 => ((nmS fr v i).1 ++ [fr ++ chr i ++ chr (dip (nmS fr v i).2 26).1], (dip (nmS fr v i).2 26).2)
def nmF (u : W3) : Str := Txt.mul (chr (dip u 26).1) (dip (dip u 26).2 5).1
def nm (m : Int) (v : W3) : List Str × W3 :=
  if m < 7 ∧ (dip v 4).1 = 0 then ((rgI 0 m).map fun k => Txt.mul (chr (dip (dip v 4).2 26).1) (k + 1), (dip (dip v 4).2 26).2)
  else nmS (nmF (nm1 m v)) (dip (dip (nm1 m v) 26).2 5).2 m.toNat
theorem nmS_inv {fr : Str} {v : W3} (h : 0 ≤ v.1) : ∀ i, 0 ≤ (nmS fr v i).2.1
  | 0 => h
  | i + 1 => dip_inv (by decide) (nmS_inv h i)
theorem nmS_len {fr : Str} {v : W3} : ∀ i, (nmS fr v i).1.length = i
  | 0 => rfl
  | i + 1 => by simp [nmS, nmS_len i]
theorem nm1_inv {m : Int} {v : W3} (h : 0 ≤ v.1) : 0 ≤ (nm1 m v).1 := by
  unfold nm1
  split
  · exact dip_inv (by decide) h
  · exact h
theorem nm_inv {m : Int} {v : W3} (h : 0 ≤ v.1) : 0 ≤ (nm m v).2.1 := by
  unfold nm
  split
  · exact dip_inv (by decide) (dip_inv (by decide) h)
  · exact nmS_inv (dip_inv (by decide) (dip_inv (by decide) (nm1_inv h))) _
theorem nmF_len (u : W3) : (nmF u).length ≤ 4 := by
  have h := mul_chr (97 + (dip u 26).1.toNat) (dip (dip u 26).2 5).1
  have lo := dip_lo (dip u 26).2 (m := 5) (by decide)
  have : (nmF u).length = ((nmF u).cps.toList).length := by simp [Str.length]
  rw [this]
  show ((Txt.mul ⟨#[97 + (dip u 26).1.toNat]⟩ (dip (dip u 26).2 5).1).cps.toList).length ≤ 4
  rw [h, List.length_replicate]
  omega
def rl__law_names : Rl := fun ds M g M' => ∃ (q : Addr) (v : W3) (m : Int), ds = [.raw (.ref q), .int m] ∧ M q = some (.lst (wl v)) ∧ 0 ≤ v.1 ∧ 0 < m ∧ m ≤ 24 ∧ g = .tup ((nm m v).1.map D.str) ∧ M' = updM M q (.lst (wl (nm m v).2))
theorem abc_get {r : Int} (h0 : 0 ≤ r) (h1 : r < 26) : ∃ c, atI abc.cps.toList r = some c ∧ (⟨#[c]⟩ : Str) = chr r := by
  have hs : abc.cps.size = 26 := by decide +kernel
  refine ⟨(abc.cps[r.toNat]?).getD 0, atI_of (n := r.toNat) ?_ (by omega), abc_at h0 h1⟩
  have : r.toNat < abc.cps.size := by omega
  simp [this]
theorem fo__law_names (T : Tx K mg) : ∃ fd, FunD K d__law_names.name d__law_names.qual (defArgs s__law_names) (defBody s__law_names) (defScope s__law_names) (d__law_names.dvs K) (d__law_names.kws K) (He.fAd K d__law_names.at_) fd ∧ FnOk P w K mg base CX0 (2 + 1) (He.fAd K d__law_names.at_) fd ["well", "many"] (spD K rl__law_names) := by
  obtain ⟨fd, F⟩ := T.f__law_names
  have nd := sc__law_names.nd
  refine ⟨fd, F, fn_def F sc__law_names ?_ ?_⟩
  · rintro ds M g M' ⟨q, v, m, rfl, _⟩; rfl
  · rintro cdv A outer s0 H E hr ds M g M' ⟨q, v, m, rfl, hq, hv, h1, h2, rfl, rfl⟩
    conv => arg 4; whnf
    have hal : abc.length = 26 := by decide +kernel
    have one : ∀ (Γ : Gam) (M2 : MS) (u : W3) (pos p p1 p2 : Pos), Γ[0]? = some (some (.raw (.ref q))) → Γ[2]? = some (some (.str abc)) → M2 q = some (.lst (wl u)) → 0 ≤ u.1 → EV (Bc P w K mg base ["well", "many", "signs", "found", "sign", "front", "k", "code"] d__law_names.qual (defScope s__law_names) (He.fAd K d__law_names.at_) cdv A outer s0 H E) Γ M2 (.Call (.Name "_law_one" p) [.Name "well" p1, .Name "signs" p2] [] pos) (.str (chr (dip u 26).1)) (updM M2 q (.lst (wl (dip u 26).2))) := by
      intro Γ M2 u pos p p1 p2 g0 g2 hq2 hu
      have lo := dip_lo u (m := 26) (by decide)
      apply ev_call (cal__law_one T) hr (by decide)
      · apply ea_cons
        · exact ev_nm rfl g0 (by walk_at "rf") (by decide) (by decide)
        · apply ea_cons
          · exact ev_nm rfl g2 (by walk_at "rf") (by decide) (by decide)
          · exact ea_nil
          · rfl
        · rfl
      · refine ⟨q, u, hq2, hu, .inr ⟨abc, rfl, by omega, by omega, ?_, ?_⟩⟩
        · rw [hal]
          exact congrArg D.str (abc_at lo.1 lo.2).symm
        · rw [hal]; rfl
      all_goals rfl
    apply ss_parN2 2 3 (ga := .str abc) (ds := []) (M1 := M) (M2 := M)
    · exact ev_str
    · apply en_lst
      · exact ea_nil
      · simp
    · rfl
    · exact nd
    · rfl
    · rfl
    · decide
    · rfl
    · rfl
    · rfl
    · rfl
    · rfl
    · rfl
    intro p hp
    have hqp : q ≠ p := fun z => by rw [z, hp] at hq; cases hq
    have st0 : updM M p (.lst []) = updM (updM M q (.lst (wl v))) p (.lst ([] : List D)) := by rw [updM_id hq]
    rw [st0]
    have rest : ∀ u : W3, 0 ≤ u.1 → u = nm1 m v → ¬ (m < 7 ∧ (dip v 4).1 = 0) → SS (Bc P w K mg base ["well", "many", "signs", "found", "sign", "front", "k", "code"] d__law_names.qual (defScope s__law_names) (He.fAd K d__law_names.at_) cdv A outer s0 H E) [some (.raw (.ref q)), some (.int m), some (.str abc), some (.raw (.ref p)), none, none, none, none] (updM (updM M q (.lst (wl u))) p (.lst ([] : List D))) ((defBody s__law_names).drop 2) (owes (.tup ((nm m v).1.map D.str)) (updM M q (.lst (wl (nm m v).2)))) := by
      rintro u hu eu hno
      conv => arg 4; whnf
      have l1 := dip_lo u (m := 26) (by decide)
      have l2 := dip_lo (dip u 26).2 (m := 5) (by decide)
      have hu2 : 0 ≤ (dip u 26).2.1 := dip_inv (by decide) hu
      have hu3 : 0 ≤ (dip (dip u 26).2 5).2.1 := dip_inv (by decide) hu2
      have e0 : nm m v = nmS (nmF u) (dip (dip u 26).2 5).2 m.toNat := by
        unfold nm; rw [if_neg hno, ← eu]
      apply ss_set 5 (g := .str (nmF u)) (M' := updM (updM M q (.lst (wl (dip (dip u 26).2 5).2))) p (.lst ([] : List D)))
      · apply ev_bin
        · exact one _ _ u _ _ _ _ rfl rfl (by rw [updM_ne hqp]; exact updM_same) hu
        · apply ev_toM
          · apply ev_call (cal__law_dip T) hr (by decide)
            · walk_at "ea"
            · exact ⟨q, _, _, rfl, updM_same, hu2, by decide, by decide, rfl, rfl⟩
            all_goals rfl
          · rw [updM_updM, updM_swap (Ne.symm hqp)]
        · exact od_mulS (by omega) (by omega) (by show (1 : Nat) ≤ 1000; decide)
      · exact nd
      · rfl
      · exact Or.inl rfl
      · exact Or.inl rfl
      · rfl
      apply ss_for (Iv := fun i Γ M2 => M2 = updM (updM M q (.lst (wl (nmS (nmF u) (dip (dip u 26).2 5).2 i).2))) p (.lst ((nmS (nmF u) (dip (dip u 26).2 5).2 i).1.map D.str)) ∧ ∃ x y, Γ = [some (.raw (.ref q)), some (.int m), some (.str abc), some (.raw (.ref p)), none, some (.str (nmF u)), x, y])
        (up := fun i Γ => Γ.set 6 (some (.int (0 + (i : Int)))))
      · walk_at "rg1"
      · exact PassesOwn.never
      · rfl
      · exact fun _ => rfl
      · exact ⟨rfl, none, none, rfl⟩
      · exact fun _ _ _ _ _ => trivial
      · rintro i Γ M2 hi ⟨_, x, y, rfl⟩
        walk_at "tg1"
      · rintro i Γ M2 hi ⟨rfl, x, y, rfl⟩
        have hi : (i : Int) < m := by omega
        have hw := nmS_inv (fr := nmF u) hu3 i
        have lo := dip_lo (nmS (nmF u) (dip (dip u 26).2 5).2 i).2 (m := 26) (by decide)
        have hfl := nmF_len u
        have hnl := nmS_len (fr := nmF u) (v := (dip (dip u 26).2 5).2) i
        apply ss_set 7 (g := .int (26 * (0 + (i : Int)) + (dip (nmS (nmF u) (dip (dip u 26).2 5).2 i).2 26).1)) (M' := updM (updM M q (.lst (wl (nmS (nmF u) (dip (dip u 26).2 5).2 (i + 1)).2))) p (.lst ((nmS (nmF u) (dip (dip u 26).2 5).2 i).1.map D.str)))
        · apply ev_bin
          · walk_at "ev"
          · apply ev_toM
            · apply ev_call (cal__law_dip T) hr (by decide)
              · walk_at "ea"
              · exact ⟨q, _, _, rfl, by rw [updM_ne hqp]; exact updM_same, hw, by decide, by decide, rfl, rfl⟩
              all_goals rfl
            · rw [updM_swap (Ne.symm hqp)]
          · exact od_add
        · exact nd
        · rfl
        · exact Or.inl rfl
        · exact Or.inl rfl
        · rfl
        obtain ⟨c1, a1, a2⟩ := abc_get (r := (26 * (0 + (i : Int)) + (dip (nmS (nmF u) (dip (dip u 26).2 5).2 i).2 26).1) / 26) (by omega) (by omega)
        obtain ⟨c2, b1, b2⟩ := abc_get (r := (26 * (0 + (i : Int)) + (dip (nmS (nmF u) (dip (dip u 26).2 5).2 i).2 26).1) % 26) (by omega) (by omega)
        have d1 : (26 * (0 + (i : Int)) + (dip (nmS (nmF u) (dip (dip u 26).2 5).2 i).2 26).1) / 26 = i := by omega
        have d2 : (26 * (0 + (i : Int)) + (dip (nmS (nmF u) (dip (dip u 26).2 5).2 i).2 26).1) % 26 = (dip (nmS (nmF u) (dip (dip u 26).2 5).2 i).2 26).1 := by omega
        rw [d1] at a2
        rw [d2] at b2
        have k1 : (⟨#[c1]⟩ : Str).length = 1 := rfl
        have k2 : (⟨#[c2]⟩ : Str).length = 1 := rfl
        have k3 : (nmF u ++ (⟨#[c1]⟩ : Str)).length = (nmF u).length + 1 := by
          show ((nmF u).cps ++ #[c1]).size = (nmF u).cps.size + 1
          simp
        apply ss_one
        apply s1_expr
        · apply ev_append (g := .str (nmF u ++ ⟨#[c1]⟩ ++ ⟨#[c2]⟩))
          · walk_at "ev"
          · apply ev_bin
            · apply ev_bin
              · walk_at "ev"
              · apply ev_ix
                · walk_at "ev"
                · walk_at "ev"
                · exact oi_str (by omega) a1
                · exact fun _ _ => rfl
              · exact od_addS (by omega)
            · apply ev_ix
              · walk_at "ev"
              · walk_at "ev"
              · exact oi_str (by omega) b1
              · exact fun _ _ => rfl
            · exact od_addS (by omega)
          · exact ⟨_, updM_same⟩
          · exact updM_same
          · rw [List.length_map]; omega
          all_goals rfl
        · rfl
        · refine ⟨?_, _, _, rfl⟩
          rw [updM_updM, a2, b2]
          congr 2
          simp [nmS]
      · rintro Γ M2 ⟨rfl, x, y, rfl⟩
        apply ss_ret
        · apply ev_Ttuple
          · walk_at "ea"
          · exact cd_tupleL (.inr (.inr ⟨p, rfl, updM_same⟩))
          · exact T.n_tuple
          all_goals rfl
        · refine ⟨by rw [e0], ?_⟩
          rw [e0]
          exact keep_upd (by rw [updM_ne (Ne.symm hqp)]; exact hp)
    by_cases h7 : m < 7
    · have lo := dip_lo v (m := 4) (by decide)
      have tst : ET (Bc P w K mg base ["well", "many", "signs", "found", "sign", "front", "k", "code"] d__law_names.qual (defScope s__law_names) (He.fAd K d__law_names.at_) cdv A outer s0 H E) [some (.raw (.ref q)), some (.int m), some (.str abc), some (.raw (.ref p)), none, none, none, none] (updM (updM M q (.lst (wl v))) p (.lst ([] : List D))) (match (defBody s__law_names).getD 1 (.Pass ⟨0, 0, 0, 0⟩) with | .If c _ _ _ => c | _ => .Name "x" ⟨0, 0, 0, 0⟩) (decide ((dip v 4).1 = 0)) (updM (updM M q (.lst (wl (dip v 4).2))) p (.lst ([] : List D))) := by
        conv => arg 4; whnf
        apply et_w
        apply ew_andT
        · apply et_toT
          · walk_at "et"
          · exact decide_eq_true h7
        · apply ew_and1
          apply et_cmp
          · apply ev_toM
            · apply ev_call (cal__law_dip T) hr (by decide)
              · walk_at "ea"
              · exact ⟨q, v, _, rfl, by rw [updM_ne hqp]; exact updM_same, hv, by decide, by decide, rfl, rfl⟩
              all_goals rfl
            · rw [updM_swap (Ne.symm hqp)]
          · walk_at "ev"
          · exact oc_eq
          · walk_at "mark"
      have hv4 : 0 ≤ (dip v 4).2.1 := dip_inv (by decide) hv
      by_cases h0 : (dip v 4).1 = 0
      · refine ss_ifT tst (decide_eq_true h0) ?_
        have e0 : nm m v = ((rgI 0 m).map fun k => Txt.mul (chr (dip (dip v 4).2 26).1) (k + 1), (dip (dip v 4).2 26).2) := by
          unfold nm; rw [if_pos ⟨h7, h0⟩]
        apply ss_set 4 (g := .str (chr (dip (dip v 4).2 26).1)) (M' := updM (updM M q (.lst (wl (dip (dip v 4).2 26).2))) p (.lst ([] : List D)))
        · apply ev_toM
          · exact one _ _ (dip v 4).2 _ _ _ _ rfl rfl (by rw [updM_ne hqp]; exact updM_same) hv4
          · rw [updM_swap (Ne.symm hqp)]
        · exact nd
        · rfl
        · first | exact Or.inl rfl | exact Or.inr rfl
        · first | exact Or.inl rfl | exact Or.inr rfl
        · rfl
        apply ss_ret (g := .tup ((rgI 0 m).map fun k => .str (Txt.mul (chr (dip (dip v 4).2 26).1) (k + 1)))) (M' := updM (updM M q (.lst (wl (dip (dip v 4).2 26).2))) p (.lst ([] : List D)))
        · apply ev_Ttuple
          · apply ea_cons
            · apply ev_of_new
              apply en_mapR1 (own := [("k", 6)]) (hi' := m) (M1 := updM (updM M q (.lst (wl (dip (dip v 4).2 26).2))) p (.lst ([] : List D))) (fun k => D.str (Txt.mul (chr (dip (dip v 4).2 26).1) (k + 1)))
              · walk_at "rg1"
              · walk_at "tg"
              walk_at "cx"
              · intro j g1 g2 s1 H1 C cl fp
                apply ev_bin
                · walk_at "ev"
                · walk_at "ev"
                · exact od_mulS (by omega) (by omega) (by show (1 : Nat) ≤ 1000; decide)
            · exact ea_nil
            · rfl
          · exact cd_tupleL (.inl rfl)
          · exact T.n_tuple
          all_goals rfl
        · rw [e0]
          refine ⟨by rw [List.map_map]; rfl, keep_upd (by rw [updM_ne (Ne.symm hqp)]; exact hp)⟩
      · refine ss_ifF tst (decide_eq_false h0) ?_
        exact rest _ hv4 (by unfold nm1; rw [if_pos h7]) (fun z => h0 z.2)
    · apply ss_ifF (t := false) (M' := updM (updM M q (.lst (wl v))) p (.lst ([] : List D)))
      · apply et_w
        apply ew_andF
        apply et_toF
        · walk_at "et"
        · exact decide_eq_false h7
      · rfl
      exact rest _ hv (by unfold nm1; rw [if_neg h7]) (fun z => h7 z.1)
theorem cal__law_names (T : Tx K mg) : Cal P w K mg base (2 + 1) "_law_names" rl__law_names [] := by
  obtain ⟨fd, F, Fn⟩ := fo__law_names (P := P) (w := w) (base := base) T
  exact ⟨_, fd, ["well", "many"], [], [], Fn, T.g__law_names, F.kp, F.bindsN fun _ _ _ _ _ _ us hl => match us, hl with | [_, _], _ => rfl, .nil, fun _ => .nil⟩
end Pr

set_option Elab.async false
set_option linter.all false
set_option maxRecDepth 100000
set_option maxHeartbeats 1000000
set_option pp.maxSteps 60
open PySem PySem.Spec PyProof.Rows L2 Sy
namespace Pr
variable {P : Program} {w : World} {K : PySem.W.Frag} {mg : Str → Option Value} {base : Heap}
/-- the well's mixing -/
def mixR : Nat → List Int → W3 → List Int × W3
  | 0, _, w => ([], w)
  | n + 1, xs, w => (((xs[(dip w xs.length).1.toNat]?).getD 0) :: (mixR n (xs.eraseIdx (dip w xs.length).1.toNat) (dip w xs.length).2).1, (mixR n (xs.eraseIdx (dip w xs.length).1.toNat) (dip w xs.length).2).2)
theorem perm_erase : ∀ {xs : List Int} {i : Nat} (h : i < xs.length), (xs[i] :: xs.eraseIdx i).Perm xs
  | x :: xs, 0, _ => List.Perm.refl _
  | x :: xs, i + 1, h => by
    have ih := perm_erase (xs := xs) (i := i) (by simpa using h)
    exact (List.Perm.swap x _ _).trans (ih.cons x)
theorem mixR_perm : ∀ (n : Nat) (xs : List Int) (w : W3), xs.length = n → (mixR n xs w).1.Perm xs
  | 0, xs, w, h => by
    have : xs = [] := List.length_eq_zero_iff.mp h
    subst this; exact List.Perm.refl _
  | n + 1, xs, w, h => by
    have lo := dip_lo w (m := xs.length) (by omega)
    have hj : (dip w xs.length).1.toNat < xs.length := by omega
    have ih := mixR_perm n (xs.eraseIdx (dip w xs.length).1.toNat) (dip w xs.length).2 (by rw [List.length_eraseIdx, if_pos hj]; omega)
    unfold mixR
    simp only
    rw [List.getElem?_eq_getElem hj]
    exact (ih.cons _).trans (perm_erase hj)
theorem mixR_inv : ∀ (n : Nat) (xs : List Int) (w : W3), xs.length = n → 0 ≤ w.1 → 0 ≤ (mixR n xs w).2.1
  | 0, _, w, _, h => h
  | n + 1, xs, w, h, hw => by
    have lo := dip_lo w (m := xs.length) (by omega)
    have hj : (dip w xs.length).1.toNat < xs.length := by omega
    exact mixR_inv n _ _ (by rw [List.length_eraseIdx, if_pos hj]; omega) (dip_inv (by omega) hw)
theorem eraseIdx_mapD : ∀ (l : List Int) (i : Nat), (l.map D.int).eraseIdx i = (l.eraseIdx i).map D.int
  | [], _ => rfl
  | _ :: _, 0 => rfl
  | x :: xs, i + 1 => by simp [eraseIdx_mapD xs i]
theorem pyL_nil : D.py (.lst []) = some (.list (([] : List Int).map PyData.int)) := by simp [D.py, D.pyL]
def rl__law_mixed : Rl := fun ds M g M' => ∃ q v xs, ds = [.raw (.ref q), .lst (xs.map D.int)] ∧ M q = some (.lst (wl v)) ∧ 0 ≤ v.1 ∧ xs.length ≤ 1000 ∧ g = .lst ((mixR xs.length xs v).1.map D.int) ∧ M' = updM M q (.lst (wl (mixR xs.length xs v).2))
theorem fo__law_mixed (T : Tx K mg) : ∃ fd, FunD K d__law_mixed.name d__law_mixed.qual (defArgs s__law_mixed) (defBody s__law_mixed) (defScope s__law_mixed) (d__law_mixed.dvs K) (d__law_mixed.kws K) (He.fAd K d__law_mixed.at_) fd ∧ FnOk P w K mg base CX0 (1 + 1) (He.fAd K d__law_mixed.at_) fd ["well", "some"] (spD K rl__law_mixed) := by
  obtain ⟨fd, F⟩ := T.f__law_mixed
  have nd := sc__law_mixed.nd
  refine ⟨fd, F, fn_def F sc__law_mixed ?_ ?_⟩
  · rintro ds M g M' ⟨q, v, xs, rfl, _⟩; rfl
  · rintro cdv A outer s0 H E hr ds M g M' ⟨q, v, xs, rfl, hq, hw, hlen, rfl, rfl⟩
    conv => arg 4; whnf
    have hu : (Bc P w K mg base ["well", "some", "left", "found"] d__law_mixed.qual (defScope s__law_mixed) (He.fAd K d__law_mixed.at_) cdv A outer s0 H E).A.units + 64 < cLine := by
      have := hr.un
      show (A.deeper (envOfC d__law_mixed.qual (defScope s__law_mixed) s0.heap.objs.size (He.fAd K d__law_mixed.at_) cdv)).units + 64 < cLine
      omega
    apply ss_parNN 2 3
    · apply en_Tlist
      · walk_at "ea"
      · exact cn_list (.inl (.inl rfl))
      · exact T.n_list
      all_goals rfl
    · intro p hp
      apply en_lst
      · exact ea_nil
      · simp
    · rfl
    · exact nd
    · rfl
    · rfl
    · decide
    · rfl
    · rfl
    · rfl
    · rfl
    · rfl
    · rfl
    · intro p r hp hrr hpr
      have hqp : q ≠ p := fun z => by rw [z, hp] at hq; cases hq
      have hrM := of_updN hrr
      have hqr : q ≠ r := fun z => by rw [z, hrM] at hq; cases hq
      apply ss_while (Iv := fun m Γ M2 => ∃ left w1 acc, left.length = m ∧ left.length ≤ xs.length ∧ acc.length + left.length = xs.length ∧ 0 ≤ w1.1 ∧ M2 = updM (updM (updM M q (.lst (wl w1))) p (.lst (left.map D.int))) r (.lst (acc.map D.int)) ∧ acc ++ (mixR m left w1).1 = (mixR xs.length xs v).1 ∧ (mixR m left w1).2 = (mixR xs.length xs v).2 ∧ Γ = [some (.raw (.ref q)), some (.lst (xs.map D.int)), some (.raw (.ref p)), some (.raw (.ref r))]) PassesOwn.never xs.length
      · refine ⟨xs, v, [], rfl, Nat.le_refl _, by simp, hw, ?_, rfl, rfl, rfl⟩
        have : updM M q (.lst (wl v)) = M := by
          funext a
          by_cases z : a = q
          · rw [z, updM_same, hq]
          · rw [updM_ne z]
        rw [this]; rfl
      · rintro m Γ M2 ⟨left, w1, acc, rfl, hl1, hl2, hw1, rfl, hm1, hm2, rfl⟩
        have hMp : updM (updM (updM M q (.lst (wl w1))) p (.lst (left.map D.int))) r (.lst (acc.map D.int)) p = some (.lst (left.map D.int)) := by rw [updM_ne (Ne.symm hpr)]; exact updM_same
        have hMr : updM (updM (updM M q (.lst (wl w1))) p (.lst (left.map D.int))) r (.lst (acc.map D.int)) r = some (.lst (acc.map D.int)) := updM_same
        have hMq : updM (updM (updM M q (.lst (wl w1))) p (.lst (left.map D.int))) r (.lst (acc.map D.int)) q = some (.lst (wl w1)) := by rw [updM_ne hqr, updM_ne hqp]; exact updM_same
        have heq := oc_neD (X := Bc P w K mg base ["well", "some", "left", "found"] d__law_mixed.qual (defScope s__law_mixed) (He.fAd K d__law_mixed.at_) cdv A outer s0 H E) (M := updM (updM (updM M q (.lst (wl w1))) p (.lst (left.map D.int))) r (.lst (acc.map D.int))) (ga := .raw (.ref p)) (gb := .lst []) hu (.inr ⟨p, _, _, rfl, hMp, pyL_ints left, rfl⟩) (.inl (pyL_nil)) (shaped_intsL left) (shaped_intsL [])
        have heqv : PyData.eqv (.list (left.map PyData.int)) (.list (([] : List Int).map PyData.int)) = decide (left = []) := eqvAll_ints left []
        rw [heqv] at heq
        refine ⟨!decide (left = []), _, et_cmp (by walk_at "ev") (by walk_at "ev") heq rfl, fun e => ?_, fun e => ?_⟩
        · have hne : left ≠ [] := by simpa using e
          have hpos : 0 < left.length := List.length_pos_iff.mpr hne
          have lo := dip_lo w1 (m := left.length) (by omega)
          have hj : (dip w1 left.length).1.toNat < left.length := by omega
          apply ss_one
          apply s1_expr
          · apply ev_append
            · walk_at "ev"
            · apply ev_popAt (n := (dip w1 left.length).1.toNat) (ds := left.map D.int)
              · walk_at "ev"
              · apply ev_toG (g := .int (dip w1 left.length).1) (by rw [Int.toNat_of_nonneg lo.1])
                apply ev_call (cal__law_dip T) hr (by decide)
                · apply ea_cons
                  · walk_at "ev"
                  · apply ea_cons
                    · apply ev_toG (g := .int ((left.map D.int).length : Nat)) (ga := .int (left.length : Nat)) (by rw [List.length_map])
                      apply ev_len
                      · walk_at "ea"
                      · exact cd_len (.inl (.inr (.inr ⟨p, rfl, hMp⟩)))
                      · exact T.n_len
                      all_goals rfl
                    · exact ea_nil
                    · rfl
                  · rfl
                · exact ⟨q, w1, _, rfl, hMq, hw1, by omega, by omega, rfl, rfl⟩
                all_goals rfl
              · exact ⟨_, hMp⟩
              · rw [updM_ne (Ne.symm hqp)]; exact hMp
              · rw [List.getElem?_map, List.getElem?_eq_getElem hj]; rfl
              · rw [List.length_map]; omega
              all_goals rfl
            · exact ⟨_, hMr⟩
            · rw [updM_ne hpr, updM_ne (Ne.symm hqr)]; exact hMr
            · rw [List.length_map]; omega
            all_goals rfl
          · rfl
          · refine ⟨left.length - 1, by omega, left.eraseIdx (dip w1 left.length).1.toNat, (dip w1 left.length).2, acc ++ [left[(dip w1 left.length).1.toNat]], ?_, ?_, ?_, dip_inv (by omega) hw1, ?_, ?_, ?_, rfl⟩
            · rw [List.length_eraseIdx, if_pos hj]
            · rw [List.length_eraseIdx, if_pos hj]; omega
            · rw [List.length_append, List.length_eraseIdx, if_pos hj, List.length_singleton]; omega
            · rw [eraseIdx_mapD, List.map_append]
              funext a
              by_cases z1 : a = r
              · subst z1
                simp [updM_same]
              · by_cases z2 : a = p
                · subst z2
                  simp [updM_same, updM_ne z1]
                · by_cases z3 : a = q
                  · subst z3
                    simp [updM_same, updM_ne z1, updM_ne z2]
                  · simp [updM_ne z1, updM_ne z2, updM_ne z3]
            · rw [← hm1]
              obtain ⟨n, hn⟩ : ∃ n, left.length = n + 1 := ⟨left.length - 1, by omega⟩
              have hn1 : left.length - 1 = n := by omega
              rw [hn1]
              conv => rhs; rw [hn]
              simp only [mixR, List.append_assoc, List.singleton_append]
              rw [List.getElem?_eq_getElem hj]
              rfl
            · rw [← hm2]
              obtain ⟨n, hn⟩ : ∃ n, left.length = n + 1 := ⟨left.length - 1, by omega⟩
              have hn1 : left.length - 1 = n := by omega
              rw [hn1]
              conv => rhs; rw [hn]
              rfl
        · have hnil : left = [] := by simpa using e
          subst hnil
          have h1 : acc = (mixR xs.length xs v).1 := by rw [← hm1]; simp [mixR]
          have h2 : w1 = (mixR xs.length xs v).2 := by rw [← hm2]; rfl
          apply ss_retF (p := r)
          · walk_at "ev"
          · exact hMr
          · refine ⟨by rw [h1], fun a o ho => ?_⟩
            rw [← h2] at ho
            have ar : a ≠ r := fun z => by
              rw [z, updM_ne (Ne.symm hqr), hrM] at ho; cases ho
            have ap : a ≠ p := fun z => by
              rw [z, updM_ne (Ne.symm hqp), hp] at ho; cases ho
            rw [delM_ne ar, updM_ne ar, updM_ne ap]
            exact ho
theorem cal__law_mixed (T : Tx K mg) : Cal P w K mg base (1 + 1) "_law_mixed" rl__law_mixed [] := by
  obtain ⟨fd, F, Fn⟩ := fo__law_mixed (P := P) (w := w) (base := base) T
  exact ⟨_, fd, ["well", "some"], [], [], Fn, T.g__law_mixed, F.kp, F.bindsN fun _ _ _ _ _ _ us hl => match us, hl with | [_, _], _ => rfl, .nil, fun _ => .nil⟩
end Pr

set_option Elab.async false
set_option linter.all false
set_option maxRecDepth 100000
set_option maxHeartbeats 1000000
set_option pp.maxSteps 60
open PySem PySem.Spec PyProof.Rows L2 Sy
local macro_rules | `(tactic| walk_at "fnx") => `(tactic| (apply ev_call (Pr.cal_is_name (by assumption)) (by assumption) (by decide); (walk_at "ea"); exact ⟨_, rfl, by assumption, rfl, rfl⟩; rfl; rfl; rfl; rfl))
namespace Pr
variable {P : Program} {w : World} {K : PySem.W.Frag} {mg : Str → Option Value} {base : Heap}
def rl_does_act : Rl := fun ds M g M' => ∃ (ns : List Int) (l x : Int), ds = [.tup (ns.map D.int), .int l, .tup [.str "come", .int x]] ∧ x ∉ ns ∧ g = .bl true ∧ M' = M
theorem fo_does_act (T : Tx K mg) : ∃ fd, FunD K d_does_act.name d_does_act.qual (defArgs s_does_act) (defBody s_does_act) (defScope s_does_act) (d_does_act.dvs K) (d_does_act.kws K) (He.fAd K d_does_act.at_) fd ∧ FnOk P w K mg base CX0 (0 + 1) (He.fAd K d_does_act.at_) fd ["there", "least", "word"] (spD K rl_does_act) := by
  obtain ⟨fd, F⟩ := T.f_does_act
  have nd := sc_does_act.nd
  refine ⟨fd, F, fn_def F sc_does_act ?_ ?_⟩
  · rintro ds M g M' ⟨ns, l, x, rfl, _⟩; rfl
  · rintro cdv A outer s0 H E hr ds M g M' ⟨ns, l, x, rfl, hx, rfl, rfl⟩
    conv => arg 4; whnf
    refine ss_ifT (M' := M') (t := true) (et_toT (by walk_at "et") (by decide)) rfl ?_
    apply ss_ret
    · walk_at "ev"
    · exact ⟨by simp [hx], fun _ _ h => h⟩
theorem cal_does_act (T : Tx K mg) : Cal P w K mg base (0 + 1) "does_act" rl_does_act [] := by
  obtain ⟨fd, F, Fn⟩ := fo_does_act (P := P) (w := w) (base := base) T
  exact ⟨_, fd, ["there", "least", "word"], [], [], Fn, T.g_does_act, F.kp, F.bindsN fun _ _ _ _ _ _ us hl => match us, hl with | [_, _, _], _ => rfl, .nil, fun _ => .nil⟩
def rl_behind_word : Rl := fun ds M g M' => ∃ (ns ms : List Int) (l x : Int), ds = [.tup (ns.map D.int), .int l, .tup [.str "come", .int x]] ∧ x ∉ ns ∧ ns.length ≤ 1000 ∧ ms.Perm (ns ++ [x]) ∧ ms.Pairwise (· ≤ ·) ∧ g = .tup (ms.map D.int) ∧ M' = M
theorem fo_behind_word (T : Tx K mg) : ∃ fd, FunD K d_behind_word.name d_behind_word.qual (defArgs s_behind_word) (defBody s_behind_word) (defScope s_behind_word) (d_behind_word.dvs K) (d_behind_word.kws K) (He.fAd K d_behind_word.at_) fd ∧ FnOk P w K mg base CX0 (1 + 1) (He.fAd K d_behind_word.at_) fd ["there", "least", "word"] (spD K rl_behind_word) := by
  obtain ⟨fd, F⟩ := T.f_behind_word
  have nd := sc_behind_word.nd
  refine ⟨fd, F, fn_def F sc_behind_word ?_ ?_⟩
  · rintro ds M g M' ⟨ns, ms, l, x, rfl, _⟩; rfl
  · rintro cdv A outer s0 H E hr ds M g M' ⟨ns, ms, l, x, rfl, hx, hl, hp, hs, rfl, rfl⟩
    conv => arg 4; whnf
    refine ss_ifF (M' := M') (t := false) (et_toF (t := !true) (et_not (et_of ?_ fun _ => rfl)) rfl) rfl ?_
    · apply ev_call (cal_does_act T) hr (by decide)
      · walk_at "ea"
      · exact ⟨ns, l, x, rfl, hx, rfl, rfl⟩
      all_goals rfl
    refine ss_ifF (M' := M') (t := false) (et_toF (by walk_at "et") (by decide)) rfl ?_
    apply ss_ret
    · apply ev_Ttuple
      · apply ea_cons
        · apply ev_of_new
          apply en_sorted
          · apply ea_cons
            · apply ev_bin
              · walk_at "ev"
              · walk_at "ev"
              · exact od_addT (by simp; omega)
            · exact ea_nil
            · rfl
          · exact cn_sortedT (ns := ns ++ [x]) (ms := ms) (.inl (by simp)) hp hs
          · exact T.n_sorted
          all_goals rfl
        · exact ea_nil
        · rfl
      · exact cd_tupleL (.inl rfl)
      · exact T.n_tuple
      all_goals rfl
    · exact ⟨rfl, fun _ _ h => h⟩
theorem cal_behind_word (T : Tx K mg) : Cal P w K mg base (1 + 1) "behind_word" rl_behind_word [] := by
  obtain ⟨fd, F, Fn⟩ := fo_behind_word (P := P) (w := w) (base := base) T
  exact ⟨_, fd, ["there", "least", "word"], [], [], Fn, T.g_behind_word, F.kp, F.bindsN fun _ _ _ _ _ _ us hl => match us, hl with | [_, _, _], _ => rfl, .nil, fun _ => .nil⟩
def rl_liars_in : Rl := fun ds M g M' => ∃ (ns ls : List Int), ds = [.tup (ns.map D.int), .tup (ls.map D.int)] ∧ ns.length ≤ 1000 ∧ g = .int ((ns.filter fun n => decide (n ∈ ls)).length : Nat) ∧ M' = M
theorem filt_ints (ns ls : List Int) : ((ns.map D.int).filter fun d => match d with | .int n => decide (n ∈ ls) | _ => false) = (ns.filter fun n => decide (n ∈ ls)).map D.int := by
  rw [List.filter_map]; rfl
theorem fo_liars_in (T : Tx K mg) : ∃ fd, FunD K d_liars_in.name d_liars_in.qual (defArgs s_liars_in) (defBody s_liars_in) (defScope s_liars_in) (d_liars_in.dvs K) (d_liars_in.kws K) (He.fAd K d_liars_in.at_) fd ∧ FnOk P w K mg base CX0 (0 + 1) (He.fAd K d_liars_in.at_) fd ["lot", "liars"] (spD K rl_liars_in) := by
  obtain ⟨fd, F⟩ := T.f_liars_in
  have nd := sc_liars_in.nd
  refine ⟨fd, F, fn_def F sc_liars_in ?_ ?_⟩
  · rintro ds M g M' ⟨ns, ls, rfl, _⟩; rfl
  · rintro cdv A outer s0 H E hr ds M g M' ⟨ns, ls, rfl, hl, rfl, rfl⟩
    conv => arg 4; whnf
    apply ss_ret
    · apply ev_toG (g := .int (((((ns.map D.int).filter fun d => match d with | .int n => decide (n ∈ ls) | _ => false).map fun d => d).length : Nat) : Int)) (ga := .int ((ns.filter fun n => decide (n ∈ ls)).length : Nat)) (by rw [filt_ints, List.length_map, List.length_map])
      apply ev_len
      · apply ea_cons
        · apply ev_of_new
          apply en_filtL (own := [("house", 2)]) (M1 := M') (fun d => d) (fun d => match d with | .int n => decide (n ∈ ls) | _ => false)
          · walk_at "itT"
          · walk_at "tg"
          walk_at "cx"
          · intro d hd s1 H1 C cl fp
            obtain ⟨n, hn, rfl⟩ := List.mem_map.mp hd
            walk_at "et"
          · intro d hd s1 H1 C cl fp
            walk_at "ev"
        · exact ea_nil
        · rfl
      · exact cd_len (.inl (.inl rfl))
      · exact T.n_len
      all_goals rfl
    · exact ⟨rfl, fun _ _ h => h⟩
theorem cal_liars_in (T : Tx K mg) : Cal P w K mg base (0 + 1) "liars_in" rl_liars_in [] := by
  obtain ⟨fd, F, Fn⟩ := fo_liars_in (P := P) (w := w) (base := base) T
  exact ⟨_, fd, ["lot", "liars"], [], [], Fn, T.g_liars_in, F.kp, F.bindsN fun _ _ _ _ _ _ us hl => match us, hl with | [_, _], _ => rfl, .nil, fun _ => .nil⟩
def rl_first_of : Rl := fun ds M g M' => ∃ (os ts ms : List Int) (k : Int), ds = [.tup (os.map D.int), .int k, .tup (ts.map D.int)] ∧ os.length ≤ 1000 ∧ 0 ≤ k ∧ ms.Perm ((os.filter fun n => decide (n ∈ ts)).take k.toNat) ∧ ms.Pairwise (· ≤ ·) ∧ g = .tup (ms.map D.int) ∧ M' = M
theorem cut_to (ds : List D) {k : Int} (h : 0 ≤ k) : Sy.cutD ds none (some k) = ds.take k.toNat := by
  unfold Sy.cutD
  show (ds.drop 0).take (HT.sIx ds.length ds.length (some k) - 0) = _
  have : HT.sIx ds.length ds.length (some k) = min k.toNat ds.length := by
    unfold HT.sIx
    simp only
    split <;> omega
  rw [this, List.drop_zero, Nat.sub_zero]
  by_cases hk : k.toNat ≤ ds.length
  · rw [Nat.min_eq_left hk]
  · rw [Nat.min_eq_right (by omega), List.take_length, List.take_of_length_le (by omega)]
theorem fo_first_of (T : Tx K mg) : ∃ fd, FunD K d_first_of.name d_first_of.qual (defArgs s_first_of) (defBody s_first_of) (defScope s_first_of) (d_first_of.dvs K) (d_first_of.kws K) (He.fAd K d_first_of.at_) fd ∧ FnOk P w K mg base CX0 (0 + 1) (He.fAd K d_first_of.at_) fd ["order", "k", "there"] (spD K rl_first_of) := by
  obtain ⟨fd, F⟩ := T.f_first_of
  have nd := sc_first_of.nd
  refine ⟨fd, F, fn_def F sc_first_of ?_ ?_⟩
  · rintro ds M g M' ⟨os, ts, ms, k, rfl, _⟩; rfl
  · rintro cdv A outer s0 H E hr ds M g M' ⟨os, ts, ms, k, rfl, hl, hk, hp, hs, rfl, rfl⟩
    conv => arg 4; whnf
    apply ss_ret
    · apply ev_Ttuple
      · apply ea_cons
        · apply ev_of_new
          apply en_sorted
          · apply ea_cons
            · apply ev_of_new
              apply en_sl
              · apply ev_of_new
                apply en_filtL (own := [("house", 3)]) (M1 := M') (fun d => d) (fun d => match d with | .int n => decide (n ∈ ts) | _ => false)
                · walk_at "itT"
                · walk_at "tg"
                walk_at "cx"
                · intro d hd s1 H1 C cl fp
                  obtain ⟨n, hn, rfl⟩ := List.mem_map.mp hd
                  walk_at "et"
                · intro d hd s1 H1 C cl fp
                  walk_at "ev"
              · exact eo_none
              · apply eo_some
                walk_at "ev"
              · exact .inl rfl
            · exact ea_nil
            · rfl
          · refine cn_sorted (ns := (os.filter fun n => decide (n ∈ ts)).take k.toNat) (ms := ms) (.inl ?_) hp hs
            rw [cut_to _ hk, filt_ints]
            simp [List.map_take]
            rfl
          · exact T.n_sorted
          all_goals rfl
        · exact ea_nil
        · rfl
      · exact cd_tupleL (.inl rfl)
      · exact T.n_tuple
      all_goals rfl
    · exact ⟨rfl, fun _ _ h => h⟩
theorem cal_first_of (T : Tx K mg) : Cal P w K mg base (0 + 1) "first_of" rl_first_of [] := by
  obtain ⟨fd, F, Fn⟩ := fo_first_of (P := P) (w := w) (base := base) T
  exact ⟨_, fd, ["order", "k", "there"], [], [], Fn, T.g_first_of, F.kp, F.bindsN fun _ _ _ _ _ _ us hl => match us, hl with | [_, _, _], _ => rfl, .nil, fun _ => .nil⟩
end Pr

set_option Elab.async false
set_option linter.all false
set_option maxRecDepth 100000
set_option maxHeartbeats 1000000
set_option pp.maxSteps 60
open PySem PySem.Spec PyProof.Rows L2 Sy
namespace Pr
variable {P : Program} {w : World} {K : PySem.W.Frag} {mg : Str → Option Value} {base : Heap}
theorem atn_str {ns : List Str} {i : Nat} (h : i < ns.length) : atD (ns.map D.str) i = .str ns[i] := atD_of (by rw [List.getElem?_map, List.getElem?_eq_getElem h]; rfl)
theorem atI_strs {ns : List Str} {j : Int} {i : Nat} (h : i < ns.length) (e : j = (i : Int)) : atI (ns.map D.str) j = some (.str ns[i]) := atI_of (by rw [List.getElem?_map, List.getElem?_eq_getElem h]; rfl) e
/-- names that a town takes -/
structure NamesOk (ns : List Str) : Prop where
  pos : 0 < ns.length
  few : ns.length ≤ 24
  ok : ∀ (i : Nat) (h : i < ns.length), nameOk ns[i]
  up : ∀ (i : Nat) (h : i + 1 < ns.length), (ns[i]).cps.toList < (ns[i + 1]).cps.toList
abbrev CT (K : PySem.W.Frag) : Addr := He.ga K "Town"
def town (K : PySem.W.Frag) (ns : List Str) : D := .obj (CT K) ["names"] [.tup (ns.map D.str)]
def rl_Town_init (K : PySem.W.Frag) : Rl := fun ds M g M' => ∃ q ns, ds = [.raw (.ref q), .tup (ns.map D.str)] ∧ M q = some (.ins (CT K) [] []) ∧ NamesOk ns ∧ g = .non ∧ M' = updM M q (.ins (CT K) ["names"] [.tup (ns.map D.str)])
theorem fo_Town_init (T : Tx K mg) : ∃ fd, FunD K d_Town_init.name d_Town_init.qual (defArgs s_Town_init) (defBody s_Town_init) (defScope s_Town_init) (d_Town_init.dvs K) (d_Town_init.kws K) (He.fAd K d_Town_init.at_) fd ∧ FnOk P w K mg base CX0 (1 + 1) (He.fAd K d_Town_init.at_) fd ["self", "names"] (spD K (rl_Town_init K)) := by
  obtain ⟨fd, F⟩ := T.f_Town_init
  have nd := sc_Town_init.nd
  refine ⟨fd, F, fn_def F sc_Town_init ?_ ?_⟩
  · rintro ds M g M' ⟨q, ns, rfl, _⟩; rfl
  · rintro cdv A outer s0 H E hr ds M g M' ⟨q, ns, rfl, hq, hn, rfl, rfl⟩
    conv => arg 4; whnf
    have hlen : (ns.map D.str).length = ns.length := List.length_map ..
    have hpos := hn.pos
    have hfew := hn.few
    refine ss_ifF (M' := M) (t := false) (et_toF (by walk_at "et") ?_) rfl ?_
    · have : ¬ ((ns.map D.str).length : Int) = 0 := by omega
      simp only [isSeq, D.isLi, D.isTu, decide_eq_false this]
      rfl
    apply ss_for (Iv := fun i Γ M2 => M2 = M ∧ ∃ x y, Γ = [some (.raw (.ref q)), some (.tup (ns.map D.str)), x, y])
      (up := fun i Γ => (Γ.set 2 (some (.int i))).set 3 (some (atD (ns.map D.str) i)))
    · apply it_enumT
      · walk_at "ev"
      · exact Or.inl rfl
      · exact T.n_enumerate
      · rfl
      · rfl
    · exact PassesOwn.never
    · rfl
    · exact fun _ => rfl
    · exact ⟨rfl, none, none, rfl⟩
    · exact fun _ _ _ _ _ => trivial
    · rintro i Γ M2 hi ⟨rfl, x, y, rfl⟩
      show AS _ _ _ _ (.tup [.int i, atD (ns.map D.str) i]) _
      walk_at "tg2"
    · rintro i Γ M2 hi ⟨rfl, x, y, rfl⟩
      have hi : i < ns.length := by omega
      rw [atn_str hi]
      have hok := hn.ok i hi
      have hne : decide ((i : Int) = 24) = false := decide_eq_false (by omega)
      have key : SS (Bc P w K mg base ["self", "names", "place", "name"] d_Town_init.qual (defScope s_Town_init) (He.fAd K d_Town_init.at_) cdv A outer s0 H E) [some (.raw (.ref q)), some (.tup (ns.map D.str)), some (.int i), some (.str ns[i])] M2 [] { nx := fun Γ M3 => M3 = M2 ∧ ∃ x y, Γ = [some (.raw (.ref q)), some (.tup (ns.map D.str)), x, y] } := ss_nil ⟨rfl, _, _, rfl⟩
      by_cases h0 : i = 0
      · subst h0
        show SS _ [some (.raw (.ref q)), some (.tup (ns.map D.str)), some (.int ((0 : Nat) : Int)), some (.str ns[0])] M2 _ _
        apply ss_ifF (M' := M2) (t := false)
        · apply et_w
          apply ew_orF
          · apply et_toF
            · walk_at "et"
            · exact hne
          · apply ew_orF
            · apply et_toF
              · walk_at "et"
              · rfl
            · apply ew_or1
              apply et_w
              apply ew_andF
              apply et_toF
              · walk_at "et"
              · decide
        · rfl
        exact ss_nil ⟨rfl, _, _, rfl⟩
      · obtain ⟨j, rfl⟩ : ∃ j, i = j + 1 := ⟨i - 1, by omega⟩
        have hup := hn.up j hi
        show SS _ [some (.raw (.ref q)), some (.tup (ns.map D.str)), some (.int ((j + 1 : Nat) : Int)), some (.str ns[j + 1])] M2 _ _
        apply ss_ifF (M' := M2) (t := false)
        · apply et_w
          apply ew_orF
          · apply et_toF
            · walk_at "et"
            · exact hne
          · apply ew_orF
            · apply et_toF
              · walk_at "et"
              · rfl
            · apply ew_or1
              apply et_w
              apply ew_andT
              · apply et_toT
                · walk_at "et"
                · exact decide_eq_true (by omega)
              · apply ew_and1
                apply et_toF (t := !decide ((ns[j]).cps.toList < (ns[j + 1]).cps.toList))
                · apply et_cmp
                  · walk_at "ev"
                  · apply ev_ix
                    · walk_at "ev"
                    · walk_at "ev"
                    · exact oi_tup (.inl rfl) (atI_strs (i := j) (by omega) (by omega))
                    · exact fun _ _ => rfl
                  · exact oc_leS
                  · walk_at "mark"
                · rw [decide_eq_true hup]; rfl
        · rfl
        exact ss_nil ⟨rfl, _, _, rfl⟩
    · rintro Γ M2 ⟨rfl, x, y, rfl⟩
      apply ss_one
      apply s1_fldNew (ns := []) (ds := [])
      · walk_at "ev"
      · walk_at "ev"
      · exact hq
      · exact T.c_Town
      · exact T.a_Town_names
      · exact List.not_mem_nil
      · decide
      · rfl
      · exact ⟨rfl, fun _ _ h => h⟩
theorem mak_Town (T : Tx K mg) : Mak P w K mg base (1 + 1) "Town" (CT K) (rl_Town_init K) := by
  obtain ⟨fd, F, Fn⟩ := fo_Town_init (P := P) (w := w) (base := base) T
  exact ⟨_, fd, ["self", "names"], T.m_Town, Fn, T.g_Town, F.bindsN fun _ _ _ _ _ _ us hl => match us, hl with | [_, _], _ => rfl⟩
end Pr

set_option Elab.async false
set_option linter.all false
set_option maxRecDepth 100000
set_option maxHeartbeats 1000000
set_option pp.maxSteps 60
open PySem PySem.Spec PyProof.Rows L2 Sy
namespace Pr
variable {P : Program} {w : World} {K : PySem.W.Frag} {mg : Str → Option Value} {base : Heap}
def rl_order_of : Rl := fun ds M g M' => ∃ (os : List Int) (many : Int), ds = [.tup (os.map D.int), .int many] ∧ (os.length : Int) = many ∧ os.length < 1000 ∧ (∀ n ∈ os, 0 ≤ n ∧ n < many) ∧ os.Nodup ∧ g = .tup (os.map D.int) ∧ M' = M
theorem fo_order_of (T : Tx K mg) : ∃ fd, FunD K d_order_of.name d_order_of.qual (defArgs s_order_of) (defBody s_order_of) (defScope s_order_of) (d_order_of.dvs K) (d_order_of.kws K) (He.fAd K d_order_of.at_) fd ∧ FnOk P w K mg base CX0 (2 + 1) (He.fAd K d_order_of.at_) fd ["value", "many"] (spD K rl_order_of) := by
  obtain ⟨fd, F⟩ := T.f_order_of
  have nd := sc_order_of.nd
  refine ⟨fd, F, fn_def F sc_order_of ?_ ?_⟩
  · rintro ds M g M' ⟨ns, many, rfl, _⟩; rfl
  · rintro cdv A outer s H E hr ds M g M' ⟨ns, many, rfl, hm, h1, h2, h3, rfl, rfl⟩
    conv => arg 4; whnf
    have hlen : (ns.map D.int).length = ns.length := List.length_map ..
    refine ss_ifF (M' := M') (t := false) (et_w (ew_orF (et_toF (by walk_at "et") (by rfl)) (ew_orF (et_toF (by walk_at "et") ?_) (ew_or1 (et_toF (et_not (t := true) (et_of ?_ (fun _ => rfl))) rfl))))) rfl ?_
    · rw [hlen, decide_eq_true hm]; rfl
    · refine ev_to (g := .bl (((ns.map D.int).map fun _ => true).all id)) ?_ (by simp) rfl
      apply ev_all
      · apply ea_cons
        · apply ev_of_new
          apply en_mapL (own := [("one", 2)]) (M1 := M') (fun _ => D.bl true)
          · walk_at "itT"
          · walk_at "tg"
          walk_at "cx"
          · intro d hd s H C cl fp
            obtain ⟨n, hn, rfl⟩ := List.mem_map.mp hd
            refine ev_to (by walk_at "ev") ?_ rfl
            have := h2 n hn
            simp [isNum, this.1]
            omega
        · exact ea_nil
        · rfl
      · refine cd_all rfl (.inl ?_)
        rw [← bl_map]
      · exact T.n_all
      all_goals rfl
    · refine ss_ret ?_ ⟨rfl, fun _ _ h => h⟩
      refine ev_ifT (M1 := M') (t := true) (et_toT (t := decide ((ns.length : Int) = many)) ?_ (decide_eq_true hm)) rfl (by walk_at "ev")
      apply et_cmp
      · apply ev_lenSet
        · walk_at "ev"
        · exact h3
        · exact h1
        · rfl
        · rfl
        · exact T.n_len
        · rfl
        · exact T.n_set
        · rfl
      · walk_at "ev"
      · walk_at "cmp"
      · walk_at "mark"
theorem cal_order_of (T : Tx K mg) : Cal P w K mg base (2 + 1) "order_of" rl_order_of [] := by
  obtain ⟨fd, F, Fn⟩ := fo_order_of (P := P) (w := w) (base := base) T
  exact ⟨_, fd, ["value", "many"], [], [], Fn, T.g_order_of, F.kp, F.bindsN fun _ _ _ _ _ _ us hl => match us, hl with | [_, _], _ => rfl, .nil, fun _ => .nil⟩
def rl_placement_of : Rl := fun ds M g M' => ∃ (os : List Int) (k many : Int), ds = [.tup [.str "first", .tup (os.map D.int)], .int k, .int many] ∧ (os.length : Int) = many ∧ os.length < 1000 ∧ (∀ n ∈ os, 0 ≤ n ∧ n < many) ∧ os.Nodup ∧ g = .tup [.str "first", .tup (os.map D.int)] ∧ M' = M
theorem fo_placement_of (T : Tx K mg) : ∃ fd, FunD K d_placement_of.name d_placement_of.qual (defArgs s_placement_of) (defBody s_placement_of) (defScope s_placement_of) (d_placement_of.dvs K) (d_placement_of.kws K) (He.fAd K d_placement_of.at_) fd ∧ FnOk P w K mg base CX0 (3 + 1) (He.fAd K d_placement_of.at_) fd ["value", "k", "many"] (spD K rl_placement_of) := by
  obtain ⟨fd, F⟩ := T.f_placement_of
  have nd := sc_placement_of.nd
  refine ⟨fd, F, fn_def F sc_placement_of ?_ ?_⟩
  · rintro ds M g M' ⟨ns, k, many, rfl, _⟩; rfl
  · rintro cdv A outer s H E hr ds M g M' ⟨ns, k, many, rfl, hm, h1, h2, h3, rfl, rfl⟩
    conv => arg 4; whnf
    have hu : (Bc P w K mg base ["value", "k", "many", "parts"] d_placement_of.qual (defScope s_placement_of) (He.fAd K d_placement_of.at_) cdv A outer s H E).A.units + 65 < cLine := by
      have := hr.un
      show (A.deeper (envOfC d_placement_of.qual (defScope s_placement_of) s.heap.objs.size (He.fAd K d_placement_of.at_) cdv)).units + 65 < cLine
      omega
    refine ss_ifF (M' := M') (t := false) (et_toF (by walk_at "et") (by rfl)) rfl ?_
    apply ss_setN
    · apply en_lst
      · walk_at "ea"
      · simp
    · exact nd
    · exact ixOf_at rfl
    · first | exact Or.inl rfl | exact Or.inr rfl
    · first | exact Or.inl rfl | exact Or.inr rfl
    · rfl
    intro p hp
    refine ss_ifT (M' := updM M' p (.lst [.str "first"])) (t := true) (et_toT (by walk_at "et") (by simp)) rfl ?_
    apply ss_one
    apply s1_expr
    · apply ev_append
      · walk_at "ev"
      · apply ev_call (cal_order_of T) hr (by decide)
        · walk_at "ea"
        · exact ⟨ns, many, rfl, hm, h1, h2, h3, rfl, rfl⟩
        all_goals rfl
      · exact ⟨_, updM_same⟩
      · exact updM_same
      · simp
      all_goals rfl
    · rfl
    · apply ss_ret (M' := updM (updM M' p (.lst [.str "first"])) p (.lst [.str "first", .tup (ns.map D.int)]))
      · refine ev_ifF (M1 := updM (updM M' p (.lst [.str "first"])) p (.lst [.str "first", .tup (ns.map D.int)])) (t := false) (et_toF (t := ([PyData.str "first", PyData.tuple (ns.map PyData.int)]).any fun z => PyData.eqv z .none) ?_ ?_) rfl (g := .tup [.str "first", .tup (ns.map D.int)]) ?_
        · apply et_cmp
          · walk_at "ev"
          · walk_at "ev"
          · refine oc_inD hu (.inl rfl) (.inr ⟨p, _, _, rfl, updM_same, ?_, rfl⟩) (by decide) (shaped_parts _ (by decide +kernel) _)
            simp [D.pyL, D.py, pyL_ints]
          · walk_at "mark"
        · simp [PyData.eqv]
        · apply ev_Ttuple
          · walk_at "ea"
          · exact cd_tupleL (.inr (.inr ⟨p, rfl, updM_same⟩))
          · exact T.n_tuple
          all_goals rfl
      · refine ⟨rfl, fun a o h => ?_⟩
        rw [updM_updM]
        exact keep_upd hp a o h
theorem cal_placement_of (T : Tx K mg) : Cal P w K mg base (3 + 1) "placement_of" rl_placement_of [] := by
  obtain ⟨fd, F, Fn⟩ := fo_placement_of (P := P) (w := w) (base := base) T
  exact ⟨_, fd, ["value", "k", "many"], [], [], Fn, T.g_placement_of, F.kp, F.bindsN fun _ _ _ _ _ _ us hl => match us, hl with | [_, _, _], _ => rfl, .nil, fun _ => .nil⟩
end Pr

set_option Elab.async false
set_option linter.all false
set_option maxRecDepth 100000
set_option maxHeartbeats 1000000
set_option pp.maxSteps 60
open PySem PySem.Spec PyProof.Rows L2 Sy
local macro_rules | `(tactic| walk_at "own") => `(tactic| exact Pr.Tx.i_Town (by assumption))
local macro_rules | `(tactic| walk_at "fld") => `(tactic| first
  | (apply ev_fld (i := 0); (walk_at "ev"); exact Or.inl rfl; exact (Pr.Tx.c_Town (by assumption)); exact (Pr.Tx.a_Town_names (by assumption)); decide; rfl; rfl; rfl)
  | (apply ev_fld (i := 0); (walk_at "ev"); exact Or.inl rfl; exact (Pr.Tx.c_Log (by assumption)); exact (Pr.Tx.a_Log_town (by assumption)); decide; rfl; rfl; rfl)
  | (apply ev_fld (i := 1); (walk_at "ev"); exact Or.inl rfl; exact (Pr.Tx.c_Log (by assumption)); exact (Pr.Tx.a_Log_begin (by assumption)); decide; rfl; rfl; rfl)
  | (apply ev_fld (i := 2); (walk_at "ev"); exact Or.inl rfl; exact (Pr.Tx.c_Log (by assumption)); exact (Pr.Tx.a_Log_least (by assumption)); decide; rfl; rfl; rfl)
  | (apply ev_fld (i := 3); (walk_at "ev"); exact Or.inl rfl; exact (Pr.Tx.c_Log (by assumption)); exact (Pr.Tx.a_Log_words (by assumption)); decide; rfl; rfl; rfl)
  | (apply ev_fld (i := 0); (walk_at "ev"); exact Or.inl rfl; exact (Pr.Tx.c_Lots (by assumption)); exact (Pr.Tx.a_Lots_town (by assumption)); decide; rfl; rfl; rfl)
  | (apply ev_fld (i := 1); (walk_at "ev"); exact Or.inl rfl; exact (Pr.Tx.c_Lots (by assumption)); exact (Pr.Tx.a_Lots_k (by assumption)); decide; rfl; rfl; rfl)
  | (apply ev_fld (i := 2); (walk_at "ev"); exact Or.inl rfl; exact (Pr.Tx.c_Lots (by assumption)); exact (Pr.Tx.a_Lots_placement (by assumption)); decide; rfl; rfl; rfl))
namespace Pr
variable {P : Program} {w : World} {K : PySem.W.Frag} {mg : Str → Option Value} {base : Heap}
def rl_is_word (K : PySem.W.Frag) : Rl := fun ds M g M' => ∃ (ns : List Str) (x : Int), ds = [town K ns, .tup [.str "come", .int x]] ∧ 0 ≤ x ∧ x < ns.length ∧ g = .bl true ∧ M' = M
theorem fo_is_word (T : Tx K mg) : ∃ fd, FunD K d_is_word.name d_is_word.qual (defArgs s_is_word) (defBody s_is_word) (defScope s_is_word) (d_is_word.dvs K) (d_is_word.kws K) (He.fAd K d_is_word.at_) fd ∧ FnOk P w K mg base CX0 (2 + 1) (He.fAd K d_is_word.at_) fd ["town", "value"] (spD K (rl_is_word K)) := by
  obtain ⟨fd, F⟩ := T.f_is_word
  have nd := sc_is_word.nd
  refine ⟨fd, F, fn_def F sc_is_word ?_ ?_⟩
  · rintro ds M g M' ⟨ns, x, rfl, _⟩; rfl
  · rintro cdv A outer s0 H E hr ds M g M' ⟨ns, x, rfl, h1, h2, rfl, rfl⟩
    conv => arg 4; whnf
    refine ss_ifF (M' := M') (t := false) (et_toF (by walk_at "et") (by rfl)) rfl ?_
    refine ss_ifF (M' := M') (t := false) (et_toF (by walk_at "et") (by decide)) rfl ?_
    apply ss_ret (g := .bl true) (M' := M')
    · apply ev_andT
      · apply ev_to2
        · apply ev_cmp
          · walk_at "ev"
          · walk_at "ev"
          · walk_at "cmp"
          · walk_at "mark"
        · exact congrArg D.bl (by decide +kernel)
      · apply ev_one
        apply ev_to2
        · apply ev_call (cal_is_number T) hr (by decide)
          · apply ea_cons
            · walk_at "ev"
            · apply ea_cons
              · apply ev_bin
                · apply ev_len
                  · apply ea_cons
                    · walk_at "fld"
                    · exact ea_nil
                    · rfl
                  · exact cd_len (.inr (.inl rfl))
                  · exact T.n_len
                  all_goals rfl
                · walk_at "ev"
                · walk_at "bin"
              · exact ea_nil
              · rfl
            · rfl
          · exact ⟨_, _, rfl, rfl, Or.inr ⟨_, rfl⟩, rfl, rfl⟩
          all_goals rfl
        · have : x ≤ ((ns.map D.str).length : Int) - 1 := by simp; omega
          simp only [isNum, decide_eq_true h1, decide_eq_true this]
          rfl
    · exact ⟨rfl, fun _ _ h => h⟩
theorem cal_is_word (T : Tx K mg) : Cal P w K mg base (2 + 1) "is_word" (rl_is_word K) [] := by
  obtain ⟨fd, F, Fn⟩ := fo_is_word (P := P) (w := w) (base := base) T
  exact ⟨_, fd, ["town", "value"], [], [], Fn, T.g_is_word, F.kp, F.bindsN fun _ _ _ _ _ _ us hl => match us, hl with | [_, _], _ => rfl, .nil, fun _ => .nil⟩
end Pr

set_option Elab.async false
set_option linter.all false
set_option maxRecDepth 100000
set_option maxHeartbeats 1000000
set_option pp.maxSteps 60
open PySem PySem.Spec PyProof.Rows L2 Sy
namespace Pr
variable {P : Program} {w : World} {K : PySem.W.Frag} {mg : Str → Option Value} {base : Heap}
abbrev CL (K : PySem.W.Frag) : Addr := He.ga K "Log"
def wd (x : Int) : D := .tup [.str "come", .int x]
def tp (t : List Int) : D := .tup (t.map D.int)
def logD (K : PySem.W.Frag) (ns : List Str) (bs : List Int) (k : Int) (ws : List Int) : D := .obj (CL K) ["town", "begin", "least", "words"] [town K ns, tp bs, .int k, .tup (ws.map wd)]
theorem atn_wd {ws : List Int} {i : Nat} (h : i < ws.length) : atD (ws.map wd) i = wd ws[i] := atD_of (by rw [List.getElem?_map, List.getElem?_eq_getElem h]; rfl)
def rl_Log_init (K : PySem.W.Frag) : Rl := fun ds M g M' => ∃ (q : Addr) (ns : List Str) (bs : List Int) (k : Int) (ws : List Int), ds = [.raw (.ref q), town K ns, tp bs, .int k, .tup (ws.map wd)] ∧ M q = some (.ins (CL K) [] []) ∧ bs.length ≤ 1000 ∧ (∀ n ∈ bs, 0 ≤ n ∧ n < (ns.length : Int)) ∧ upTrue bs = true ∧ 0 < k ∧ k ≤ bs.length ∧ ws.length ≤ 200 ∧ (∀ x ∈ ws, 0 ≤ x ∧ x < (ns.length : Int)) ∧
  g = .non ∧ M' = updM M q (.ins (CL K) ["town", "begin", "least", "words"] [town K ns, tp bs, .int k, .tup (ws.map wd)])
theorem fo_Log_init (T : Tx K mg) : ∃ fd, FunD K d_Log_init.name d_Log_init.qual (defArgs s_Log_init) (defBody s_Log_init) (defScope s_Log_init) (d_Log_init.dvs K) (d_Log_init.kws K) (He.fAd K d_Log_init.at_) fd ∧ FnOk P w K mg base CX0 (3 + 1) (He.fAd K d_Log_init.at_) fd ["self", "town", "begin", "least", "words"] (spD K (rl_Log_init K)) := by
  obtain ⟨fd, F⟩ := T.f_Log_init
  have nd := sc_Log_init.nd
  refine ⟨fd, F, fn_def F sc_Log_init ?_ ?_⟩
  · rintro ds M g M' ⟨q, ns, bs, k, ws, rfl, _⟩; rfl
  · rintro cdv A outer s0 H E hr ds M g M' ⟨q, ns, bs, k, ws, rfl, hq, h1, h2, h3, h4, h5, h6, h7, rfl, rfl⟩
    conv => arg 4; whnf
    have hlen : (ns.map D.str).length = ns.length := List.length_map ..
    have hlen2 : (bs.map D.int).length = bs.length := List.length_map ..
    have hlen3 : (ws.map wd).length = ws.length := List.length_map ..
    apply ss_ifF (M' := M) (t := false)
    · apply et_w
      apply ew_orF
      · apply et_toF (t := !true)
        · apply et_not
          apply et_of
          · apply ev_isinstance
            · apply ea_cons
              · walk_at "ev"
              · apply ea_cons
                · exact ev_ref T.g_Town rfl (by decide)
                · exact ea_nil
                · rfl
              · rfl
            · exact cd_isiO T.i_Town (Or.inl rfl)
            · exact T.n_isinstance
            all_goals rfl
          · exact fun _ => rfl
        · rfl
      · apply ew_or1
        apply et_toF
        · walk_at "et"
        · rfl
    · rfl
    apply ss_set 5 (g := tp bs) (M' := M)
    · apply ev_call (cal_lot_of T) hr (by decide)
      · apply ea_cons
        · walk_at "ev"
        · apply ea_cons
          · apply ev_len
            · apply ea_cons
              · walk_at "fld"
              · exact ea_nil
              · rfl
            · exact cd_len (.inr (.inl rfl))
            · exact T.n_len
            all_goals rfl
          · exact ea_nil
          · rfl
        · rfl
      · exact ⟨bs, _, rfl, h1, by rw [hlen]; exact h2, h3, rfl, rfl⟩
      all_goals rfl
    · exact nd
    · rfl
    · exact Or.inl rfl
    · exact Or.inl rfl
    · rfl
    apply ss_ifF (M' := M) (t := false)
    · apply et_w
      apply ew_orF
      · apply et_toF
        · apply et_cmp
          · walk_at "ev"
          · walk_at "ev"
          · exact oc_is (fun w z => by cases z)
          · walk_at "mark"
        · rfl
      · apply ew_orF
        · apply et_toF (t := !(isNum (.int (bs.length : Nat)) (.int k)))
          · apply et_not
            apply et_of
            · apply ev_call (cal_is_number T) hr (by decide)
              · apply ea_cons
                · walk_at "ev"
                · apply ea_cons
                  · apply ev_to2
                    · apply ev_len
                      · apply ea_cons
                        · walk_at "ev"
                        · exact ea_nil
                        · rfl
                      · exact cd_len (.inr (.inl rfl))
                      · exact T.n_len
                      all_goals rfl
                    · rw [hlen2]
                  · exact ea_nil
                  · rfl
                · rfl
              · exact ⟨_, _, rfl, rfl, Or.inr ⟨_, rfl⟩, rfl, rfl⟩
              all_goals rfl
            · exact fun _ => rfl
          · have e1 : (0 : Int) ≤ k := by omega
            simp [isNum, e1, h5]
        · apply ew_or1
          apply et_toF
          · walk_at "et"
          · exact decide_eq_false (by omega)
    · rfl
    apply ss_for (Iv := fun i Γ M2 => M2 = M ∧ ∃ x y, Γ = [some (.raw (.ref q)), some (town K ns), some (tp bs), some (.int k), some (.tup (ws.map wd)), some (tp bs), x, y])
      (up := fun i Γ => (Γ.set 6 (some (.int i))).set 7 (some (atD (ws.map wd) i)))
    · apply it_enumT
      · walk_at "ev"
      · exact Or.inl rfl
      · exact T.n_enumerate
      · rfl
      · rfl
    · exact PassesOwn.never
    · rfl
    · exact fun _ => rfl
    · exact ⟨rfl, none, none, rfl⟩
    · exact fun _ _ _ _ _ => trivial
    · rintro i Γ M2 hi ⟨rfl, x, y, rfl⟩
      show AS _ _ _ _ (.tup [.int i, atD (ws.map wd) i]) _
      walk_at "tg2"
    · rintro i Γ M2 hi ⟨rfl, x, y, rfl⟩
      have hi : i < ws.length := by omega
      have hx := h7 _ (List.getElem_mem hi)
      show SS _ [some (.raw (.ref q)), some (town K ns), some (tp bs), some (.int k), some (.tup (ws.map wd)), some (tp bs), some (.int i), some (atD (ws.map wd) i)] M2 _ _
      rw [atn_wd hi]
      apply ss_ifF (M' := M2) (t := false)
      · apply et_w
        apply ew_orF
        · apply et_toF
          · walk_at "et"
          · exact decide_eq_false (by omega)
        · apply ew_or1
          apply et_toF (t := !true)
          · apply et_not
            apply et_of
            · apply ev_call (cal_is_word T) hr (by decide)
              · walk_at "ea"
              · exact ⟨ns, ws[i], rfl, hx.1, hx.2, rfl, rfl⟩
              all_goals rfl
            · exact fun _ => rfl
          · rfl
      · rfl
      exact ss_nil ⟨rfl, _, _, rfl⟩
    · rintro Γ M2 ⟨rfl, x, y, rfl⟩
      apply ss_step
      · apply s1_fldNew (ns := []) (ds := [])
        · walk_at "ev"
        · walk_at "ev"
        · exact hq
        · exact T.c_Log
        · exact T.a_Log_town
        · exact List.not_mem_nil
        · decide
        · rfl
        · exact ⟨rfl, rfl⟩
      apply ss_step
      · apply s1_fldNew (ns := ["town"]) (ds := [town K ns])
        · walk_at "ev"
        · walk_at "ev"
        · exact updM_same
        · exact T.c_Log
        · exact T.a_Log_begin
        · decide
        · decide
        · rfl
        · exact ⟨rfl, rfl⟩
      apply ss_step
      · apply s1_fldNew (ns := ["town", "begin"]) (ds := [town K ns, tp bs])
        · walk_at "ev"
        · walk_at "ev"
        · exact updM_same
        · exact T.c_Log
        · exact T.a_Log_least
        · decide
        · decide
        · rfl
        · exact ⟨rfl, rfl⟩
      apply ss_one
      apply s1_fldNew (ns := ["town", "begin", "least"]) (ds := [town K ns, tp bs, .int k]) (g := .tup ((ws.map wd).map fun d => d))
      · apply ev_Ttuple
        · apply ea_cons
          · apply ev_of_new
            apply en_mapL (own := [("word", 7)]) (fun d => d)
            · walk_at "itT"
            · walk_at "tg"
            walk_at "blk"
            rfl
            assumption
            exact fun _ => rfl
            omega
            trivial
            exact fun _ _ => trivial
            · intro d hd s1 H1 C cl fp
              obtain ⟨x, hx, rfl⟩ := List.mem_map.mp hd
              apply ev_Ttuple
              · apply ea_cons
                · walk_at "ev"
                · exact ea_nil
                · rfl
              · exact cd_tupleT
              · exact T.n_tuple
              all_goals rfl
          · exact ea_nil
          · rfl
        · exact cd_tupleL (.inl rfl)
        · exact T.n_tuple
        all_goals rfl
      · walk_at "ev"
      · exact updM_same
      · exact T.c_Log
      · exact T.a_Log_words
      · decide
      · decide
      · rfl
      · refine ⟨rfl, fun a o h => ?_⟩
        rw [List.map_id']
        simpa only [updM_updM, List.cons_append, List.nil_append] using h
theorem mak_Log (T : Tx K mg) : Mak P w K mg base (3 + 1) "Log" (CL K) (rl_Log_init K) := by
  obtain ⟨fd, F, Fn⟩ := fo_Log_init (P := P) (w := w) (base := base) T
  exact ⟨_, fd, ["self", "town", "begin", "least", "words"], T.m_Log, Fn, T.g_Log, F.bindsN fun _ _ _ _ _ _ us hl => match us, hl with | [_, _, _, _, _], _ => rfl⟩
end Pr

set_option Elab.async false
set_option linter.all false
set_option maxRecDepth 100000
set_option maxHeartbeats 1000000
set_option pp.maxSteps 60
open PySem PySem.Spec PyProof.Rows L2 Sy
namespace Pr
variable {P : Program} {w : World} {K : PySem.W.Frag} {mg : Str → Option Value} {base : Heap}
abbrev CLo (K : PySem.W.Frag) : Addr := He.ga K "Lots"
def lotsD (K : PySem.W.Frag) (ns : List Str) (k : Int) (os : List Int) : D := .obj (CLo K) ["town", "k", "placement"] [town K ns, .int k, .tup [.str "first", .tup (os.map D.int)]]
/-- the k first of os that are there -/
def fk (os : List Int) (k : Int) (t : List Int) : List Int := (os.filter fun n => decide (n ∈ t)).take k.toNat
theorem fk_sorted {os : List Int} (h : os.Pairwise (· ≤ ·)) (k : Int) (t : List Int) : (fk os k t).Pairwise (· ≤ ·) := (h.sublist (List.filter_sublist)).sublist (List.take_sublist _ _)
def rl_lot_by (K : PySem.W.Frag) : Rl := fun ds M g M' => ∃ (ns : List Str) (k : Int) (os ts : List Int), ds = [lotsD K ns k os, .tup (ts.map D.int)] ∧ 0 ≤ k ∧ k ≤ ts.length ∧ os.length ≤ 1000 ∧ os.Pairwise (· ≤ ·) ∧ g = .tup ((fk os k ts).map D.int) ∧ M' = M
theorem fo_lot_by (T : Tx K mg) : ∃ fd, FunD K d_lot_by.name d_lot_by.qual (defArgs s_lot_by) (defBody s_lot_by) (defScope s_lot_by) (d_lot_by.dvs K) (d_lot_by.kws K) (He.fAd K d_lot_by.at_) fd ∧ FnOk P w K mg base CX0 (1 + 1) (He.fAd K d_lot_by.at_) fd ["lots", "there"] (spD K (rl_lot_by K)) := by
  obtain ⟨fd, F⟩ := T.f_lot_by
  have nd := sc_lot_by.nd
  refine ⟨fd, F, fn_def F sc_lot_by ?_ ?_⟩
  · rintro ds M g M' ⟨ns, k, os, ts, rfl, _⟩; rfl
  · rintro cdv A outer s0 H E hr ds M g M' ⟨ns, k, os, ts, rfl, h1, h2, h3, h4, rfl, rfl⟩
    conv => arg 4; whnf
    have hlen : (ts.map D.int).length = ts.length := List.length_map ..
    apply ss_ifF (M' := M') (t := false)
    · apply et_toF
      · apply et_cmp
        · apply ev_len
          · walk_at "ea"
          · exact cd_len (.inr (.inl rfl))
          · exact T.n_len
          all_goals rfl
        · walk_at "fld"
        · exact oc_lt
        · walk_at "mark"
      · exact decide_eq_false (by omega)
    · rfl
    apply ss_parI (i := 1) (j := 2)
    · apply ev_Ttuple
      · walk_at "ea"
      · exact cd_tupleT
      · exact T.n_tuple
      all_goals rfl
    · apply ev_ix
      · walk_at "fld"
      · walk_at "ev"
      · exact oi_tup (.inl rfl) (atI_of (n := 0) rfl rfl)
      · exact fun _ _ => rfl
    · exact nd
    · rfl
    · rfl
    · decide
    · rfl
    · rfl
    · rfl
    · rfl
    · rfl
    · rfl
    · rfl
    apply ss_ifF (M' := M') (t := false)
    · apply et_toF
      · walk_at "et"
      · decide
    · rfl
    apply ss_ifF (M' := M') (t := false)
    · apply et_toF
      · walk_at "et"
      · decide
    · rfl
    apply ss_ret
    · apply ev_call (cal_first_of T) hr (by decide)
      · apply ea_cons
        · apply ev_ix
          · walk_at "fld"
          · walk_at "ev"
          · exact oi_tup (.inl rfl) (atI_last [.str "first"] _)
          · exact fun _ _ => rfl
        · apply ea_cons
          · walk_at "fld"
          · walk_at "ea"
          · rfl
        · rfl
      · exact ⟨os, ts, fk os k ts, k, rfl, h3, h1, List.Perm.refl _, fk_sorted h4 k ts, rfl, rfl⟩
      all_goals rfl
    · exact ⟨rfl, fun _ _ h => h⟩
theorem cal_lot_by (T : Tx K mg) : Cal P w K mg base (1 + 1) "lot_by" (rl_lot_by K) [] := by
  obtain ⟨fd, F, Fn⟩ := fo_lot_by (P := P) (w := w) (base := base) T
  exact ⟨_, fd, ["lots", "there"], [], [], Fn, T.g_lot_by, F.kp, F.bindsN fun _ _ _ _ _ _ us hl => match us, hl with | [_, _], _ => rfl, .nil, fun _ => .nil⟩
end Pr

set_option Elab.async false
set_option linter.all false
set_option maxRecDepth 100000
set_option maxHeartbeats 1000000
set_option pp.maxSteps 60
open PySem PySem.Spec PyProof.Rows L2 Sy
namespace Pr
variable {P : Program} {w : World} {K : PySem.W.Frag} {mg : Str → Option Value} {base : Heap}
abbrev CLo' (K : PySem.W.Frag) : Addr := He.ga K "Lots"
def rl_Lots_init (K : PySem.W.Frag) : Rl := fun ds M g M' => ∃ (q : Addr) (ns : List Str) (k : Int) (os : List Int), ds = [.raw (.ref q), town K ns, .int k, .tup [.str "first", .tup (os.map D.int)]] ∧ M q = some (.ins (CLo' K) [] []) ∧ 0 < k ∧ k ≤ 12 ∧ k ≤ ns.length ∧ os.length = ns.length ∧ os.length < 1000 ∧ (∀ n ∈ os, 0 ≤ n ∧ n < (ns.length : Int)) ∧ os.Nodup ∧
  g = .non ∧ M' = updM M q (.ins (CLo' K) ["town", "k", "placement"] [town K ns, .int k, .tup [.str "first", .tup (os.map D.int)]])
theorem fo_Lots_init (T : Tx K mg) : ∃ fd, FunD K d_Lots_init.name d_Lots_init.qual (defArgs s_Lots_init) (defBody s_Lots_init) (defScope s_Lots_init) (d_Lots_init.dvs K) (d_Lots_init.kws K) (He.fAd K d_Lots_init.at_) fd ∧ FnOk P w K mg base CX0 (4 + 1) (He.fAd K d_Lots_init.at_) fd ["self", "town", "k", "placement"] (spD K (rl_Lots_init K)) := by
  obtain ⟨fd, F⟩ := T.f_Lots_init
  have nd := sc_Lots_init.nd
  refine ⟨fd, F, fn_def F sc_Lots_init ?_ ?_⟩
  · rintro ds M g M' ⟨q, ns, k, os, rfl, _⟩; rfl
  · rintro cdv A outer s0 H E hr ds M g M' ⟨q, ns, k, os, rfl, hq, h1, h2, h3, h4, h5, h6, h7, rfl, rfl⟩
    conv => arg 4; whnf
    have hlen : (ns.map D.str).length = ns.length := List.length_map ..
    apply ss_ifF (M' := M) (t := false)
    · apply et_toF (t := !true)
      · apply et_not
        apply et_of
        · apply ev_isinstance
          · apply ea_cons
            · walk_at "ev"
            · apply ea_cons
              · exact ev_ref T.g_Town rfl (by decide)
              · exact ea_nil
              · rfl
            · rfl
          · exact cd_isiO T.i_Town (Or.inl rfl)
          · exact T.n_isinstance
          all_goals rfl
        · exact fun _ => rfl
      · rfl
    · rfl
    apply ss_set 4
    · apply ev_len
      · apply ea_cons
        · walk_at "fld"
        · exact ea_nil
        · rfl
      · exact cd_len (.inr (.inl rfl))
      · exact T.n_len
      all_goals rfl
    · exact nd
    · rfl
    · exact Or.inl rfl
    · exact Or.inl rfl
    · rfl
    apply ss_ifF (M' := M) (t := false)
    · apply et_w
      apply ew_orF
      · apply et_toF (t := !(isNum (.int (min ((ns.map D.str).length : Int) 12)) (.int k)))
        · apply et_not
          apply et_of
          · apply ev_call (cal_is_number T) hr (by decide)
            · walk_at "ea"
            · exact ⟨_, _, rfl, rfl, Or.inr ⟨_, rfl⟩, rfl, rfl⟩
            all_goals rfl
          · exact fun _ => rfl
        · have e1 : (0 : Int) ≤ k := by omega
          have e2 : k ≤ min ((ns.map D.str).length : Int) 12 := by omega
          simp only [isNum, decide_eq_true e1, decide_eq_true e2]
          rfl
      · apply ew_or1
        apply et_toF
        · walk_at "et"
        · exact decide_eq_false (by omega)
    · rfl
    apply ss_set 5 (g := .tup [.str "first", .tup (os.map D.int)]) (M' := M)
    · apply ev_call (cal_placement_of T) hr (by decide)
      · walk_at "ea"
      · exact ⟨os, k, _, rfl, by omega, h5, by rw [hlen]; exact h6, h7, rfl, rfl⟩
      all_goals rfl
    · exact nd
    · rfl
    · exact Or.inl rfl
    · exact Or.inl rfl
    · rfl
    apply ss_ifF (M' := M) (t := false)
    · apply et_toF
      · apply et_cmp
        · walk_at "ev"
        · walk_at "ev"
        · exact oc_is (fun w z => by cases z)
        · walk_at "mark"
      · rfl
    · rfl
    apply ss_step
    · apply s1_fldNew (ns := []) (ds := [])
      · walk_at "ev"
      · walk_at "ev"
      · exact hq
      · exact T.c_Lots
      · exact T.a_Lots_town
      · exact List.not_mem_nil
      · decide
      · rfl
      · exact ⟨rfl, rfl⟩
    apply ss_step
    · apply s1_fldNew (ns := ["town"]) (ds := [town K ns])
      · walk_at "ev"
      · walk_at "ev"
      · exact updM_same
      · exact T.c_Lots
      · exact T.a_Lots_k
      · decide
      · decide
      · rfl
      · exact ⟨rfl, rfl⟩
    apply ss_one
    apply s1_fldNew (ns := ["town", "k"]) (ds := [town K ns, .int k])
    · walk_at "ev"
    · walk_at "ev"
    · exact updM_same
    · exact T.c_Lots
    · exact T.a_Lots_placement
    · decide
    · decide
    · rfl
    · refine ⟨rfl, fun a o h => ?_⟩
      simpa only [updM_updM, List.cons_append, List.nil_append] using h
theorem mak_Lots (T : Tx K mg) : Mak P w K mg base (4 + 1) "Lots" (CLo' K) (rl_Lots_init K) := by
  obtain ⟨fd, F, Fn⟩ := fo_Lots_init (P := P) (w := w) (base := base) T
  exact ⟨_, fd, ["self", "town", "k", "placement"], T.m_Lots, Fn, T.g_Lots, F.bindsN fun _ _ _ _ _ _ us hl => match us, hl with | [_, _, _, _], _ => rfl⟩
end Pr

set_option Elab.async false
set_option linter.all false
set_option maxRecDepth 100000
set_option maxHeartbeats 1000000
set_option pp.maxSteps 60
open PySem PySem.Spec PyProof.Rows L2 Sy
namespace Pr
variable {P : Program} {w : World} {K : PySem.W.Frag} {mg : Str → Option Value} {base : Heap}
/-- how the houses there change, word by word -/
structure Ch (bs ws : List Int) (t : Nat → List Int) : Prop where
  z : t 0 = bs
  st : ∀ (i : Nat) (h : i < ws.length), (t (i + 1)).Perm (t i ++ [ws[i]]) ∧ (t (i + 1)).Pairwise (· ≤ ·) ∧ ws[i] ∉ t i
  len : ∀ i, i ≤ ws.length → (t i).length ≤ 1000
def rl_theres (K : PySem.W.Frag) : Rl := fun ds M g M' => ∃ (ns : List Str) (bs : List Int) (k : Int) (ws : List Int) (t : Nat → List Int), ds = [logD K ns bs k ws] ∧ ws.length ≤ 1000 ∧ Ch bs ws t ∧ g = .tup ((List.range (ws.length + 1)).map fun i => tp (t i)) ∧ M' = M
theorem fo_theres (T : Tx K mg) : ∃ fd, FunD K d_theres.name d_theres.qual (defArgs s_theres) (defBody s_theres) (defScope s_theres) (d_theres.dvs K) (d_theres.kws K) (He.fAd K d_theres.at_) fd ∧ FnOk P w K mg base CX0 (2 + 1) (He.fAd K d_theres.at_) fd ["log"] (spD K (rl_theres K)) := by
  obtain ⟨fd, F⟩ := T.f_theres
  have nd := sc_theres.nd
  refine ⟨fd, F, fn_def F sc_theres ?_ ?_⟩
  · rintro ds M g M' ⟨ns, bs, k, ws, t, rfl, _⟩; rfl
  · rintro cdv A outer s0 H E hr ds M g M' ⟨ns, bs, k, ws, t, rfl, hl, ch, rfl, rfl⟩
    conv => arg 4; whnf
    have hlen3 : (ws.map wd).length = ws.length := List.length_map ..
    apply ss_setN 1 (ds := [tp bs]) (M' := M')
    · apply en_lst
      · apply ea_cons
        · walk_at "fld"
        · exact ea_nil
        · rfl
      · simp
    · exact nd
    · rfl
    · first | exact Or.inl rfl | exact Or.inr rfl
    · first | exact Or.inl rfl | exact Or.inr rfl
    · rfl
    intro p hp
    apply ss_for (Iv := fun i Γ M2 => M2 = updM M' p (.lst ((List.range (i + 1)).map fun i => tp (t i))) ∧ ∃ y, Γ = [some (logD K ns bs k ws), some (.raw (.ref p)), y])
      (up := fun i Γ => Γ.set 2 (some (atD (ws.map wd) i)))
    · apply it_tup
      · walk_at "fld"
      · exact Or.inl rfl
    · exact PassesOwn.never
    · rfl
    · exact fun _ => rfl
    · refine ⟨?_, none, rfl⟩
      rw [show List.range (0 + 1) = [0] from rfl]
      simp [ch.z]
    · exact fun _ _ _ _ _ => trivial
    · rintro i Γ M2 hi ⟨_, y, rfl⟩
      walk_at "tg1"
    · rintro i Γ M2 hi ⟨rfl, y, rfl⟩
      have hi : i < ws.length := by omega
      obtain ⟨c1, c2, c3⟩ := ch.st i hi
      have c4 := ch.len i (by omega)
      show SS _ [some (logD K ns bs k ws), some (.raw (.ref p)), some (atD (ws.map wd) i)] _ _ _
      rw [atn_wd hi]
      have hds : (List.range (i + 1)).map (fun i => tp (t i)) = (List.range i).map (fun i => tp (t i)) ++ [tp (t i)] := by rw [List.range_succ, List.map_append]; rfl
      apply ss_one
      apply s1_expr
      · apply ev_append (g := tp (t (i + 1)))
        · walk_at "ev"
        · apply ev_call (cal_behind_word T) hr (by decide)
          · apply ea_cons
            · apply ev_ix
              · walk_at "ev"
              · walk_at "ev"
              · exact oi_lst (.inr (.inr ⟨p, rfl, updM_same⟩)) (by rw [hds]; exact atI_last _ _)
              · exact fun _ _ => rfl
            · apply ea_cons
              · walk_at "fld"
              · walk_at "ea"
              · rfl
            · rfl
          · exact ⟨t i, t (i + 1), k, ws[i], rfl, c3, c4, c1, c2, rfl, rfl⟩
          all_goals rfl
        · exact ⟨_, updM_same⟩
        · exact updM_same
        · simp; omega
        all_goals rfl
      · rfl
      · refine ⟨?_, _, rfl⟩
        rw [updM_updM, List.range_succ (n := i + 1), List.map_append]
        rfl
    · rintro Γ M2 ⟨rfl, y, rfl⟩
      apply ss_ret
      · apply ev_Ttuple
        · walk_at "ea"
        · exact cd_tupleL (.inr (.inr ⟨p, rfl, updM_same⟩))
        · exact T.n_tuple
        all_goals rfl
      · rw [hlen3]
        exact ⟨rfl, keep_upd hp⟩
theorem cal_theres (T : Tx K mg) : Cal P w K mg base (2 + 1) "theres" (rl_theres K) [] := by
  obtain ⟨fd, F, Fn⟩ := fo_theres (P := P) (w := w) (base := base) T
  exact ⟨_, fd, ["log"], [], [], Fn, T.g_theres, F.kp, F.bindsN fun _ _ _ _ _ _ us hl => match us, hl with | [_], _ => rfl, .nil, fun _ => .nil⟩
end Pr

set_option Elab.async false
set_option linter.all false
set_option maxRecDepth 100000
set_option maxHeartbeats 1000000
set_option pp.maxSteps 60
open PySem PySem.Spec PyProof.Rows L2 Sy
namespace Pr
variable {P : Program} {w : World} {K : PySem.W.Frag} {mg : Str → Option Value} {base : Heap}
def rl_lots_of (K : PySem.W.Frag) : Rl := fun ds M g M' => ∃ (ns : List Str) (bs : List Int) (k : Int) (ws os : List Int) (t : Nat → List Int), ds = [lotsD K ns k os, logD K ns bs k ws] ∧ (∀ n ∈ ns, PyData.strOk n = true) ∧ ws.length ≤ 1000 ∧ Ch bs ws t ∧ 0 ≤ k ∧ (∀ i, i ≤ ws.length → k ≤ (t i).length) ∧ os.length ≤ 1000 ∧ os.Pairwise (· ≤ ·) ∧
  g = .tup ((List.range (ws.length + 1)).map fun i => tp (fk os k (t i))) ∧ M' = M
theorem fo_lots_of (T : Tx K mg) : ∃ fd, FunD K d_lots_of.name d_lots_of.qual (defArgs s_lots_of) (defBody s_lots_of) (defScope s_lots_of) (d_lots_of.dvs K) (d_lots_of.kws K) (He.fAd K d_lots_of.at_) fd ∧ FnOk P w K mg base CX0 (3 + 1) (He.fAd K d_lots_of.at_) fd ["lots", "log"] (spD K (rl_lots_of K)) := by
  obtain ⟨fd, F⟩ := T.f_lots_of
  have nd := sc_lots_of.nd
  refine ⟨fd, F, fn_def F sc_lots_of ?_ ?_⟩
  · rintro ds M g M' ⟨ns, bs, k, ws, os, t, rfl, _⟩; rfl
  · rintro cdv A outer s0 H E hr ds M g M' ⟨ns, bs, k, ws, os, t, rfl, hok, hl, ch, h1, h2, h3, h4, rfl, rfl⟩
    conv => arg 4; whnf
    have hu : (Bc P w K mg base ["lots", "log", "there"] d_lots_of.qual (defScope s_lots_of) (He.fAd K d_lots_of.at_) cdv A outer s0 H E).A.units + 64 < cLine := by
      have := hr.un
      show (A.deeper (envOfC d_lots_of.qual (defScope s_lots_of) s0.heap.objs.size (He.fAd K d_lots_of.at_) cdv)).units + 64 < cLine
      omega
    have hpy : D.py (.tup (ns.map D.str)) = some (.tuple (ns.map PyData.str)) := by simp [D.py, pyL_strs]
    apply ss_ifF (M' := M') (t := false)
    · apply et_toF
      · apply et_cmp
        · walk_at "fld"
        · walk_at "fld"
        · exact oc_neD hu (.inl hpy) (.inl hpy) (shaped_strsT _ hok) (shaped_strsT _ hok)
        · walk_at "mark"
      · have : PyData.eqv (.tuple (ns.map PyData.str)) (.tuple (ns.map PyData.str)) = true := eqvAll_strs ns
        rw [this]; rfl
    · rfl
    apply ss_ret
    · apply ev_Ttuple
      · apply ea_cons
        · apply ev_of_new
          apply en_map0 (own := [("there", 2)]) (M1 := M') (n := ((List.range (ws.length + 1)).map fun i => tp (t i)).length) (Yd := atD ((List.range (ws.length + 1)).map fun i => tp (t i))) (fun i => tp (fk os k (t i)))
          · apply it_tup
            · apply ev_call (cal_theres T) hr (by decide)
              · walk_at "ea"
              · exact ⟨ns, bs, k, ws, t, rfl, hl, ch, rfl, rfl⟩
              all_goals rfl
            · exact Or.inl rfl
          · walk_at "tg"
          walk_at "blk"
          rfl
          assumption
          exact fun _ => rfl
          · simp; omega
          trivial
          exact fun _ _ => trivial
          · intro i hi s1 H1 C cl fp
            have hi : i < ws.length + 1 := by simpa using hi
            have e : atD ((List.range (ws.length + 1)).map fun i => tp (t i)) i = tp (t i) := atD_of (by rw [List.getElem?_map, List.getElem?_range hi]; rfl)
            rw [e]
            apply ev_call (cal_lot_by T) hr (by decide)
            · walk_at "ea"
            · exact ⟨ns, k, os, t i, rfl, h1, h2 i (by omega), h3, h4, rfl, rfl⟩
            all_goals rfl
        · exact ea_nil
        · rfl
      · exact cd_tupleL (.inl rfl)
      · exact T.n_tuple
      all_goals rfl
    · refine ⟨?_, fun _ _ h => h⟩
      simp
theorem cal_lots_of (T : Tx K mg) : Cal P w K mg base (3 + 1) "lots_of" (rl_lots_of K) [] := by
  obtain ⟨fd, F, Fn⟩ := fo_lots_of (P := P) (w := w) (base := base) T
  exact ⟨_, fd, ["lots", "log"], [], [], Fn, T.g_lots_of, F.kp, F.bindsN fun _ _ _ _ _ _ us hl => match us, hl with | [_, _], _ => rfl, .nil, fun _ => .nil⟩
def bear (os : List Int) (k : Int) (n : Nat) (t : Nat → List Int) (ls : List Int) (f : Int) : Bool := (List.range (n + 1)).all fun i => decide ((((fk os k (t i)).filter fun n => decide (n ∈ ls)).length : Int) ≤ f)
def rl_is_bearable (K : PySem.W.Frag) : Rl := fun ds M g M' => ∃ (ns : List Str) (bs : List Int) (k : Int) (ws os ls : List Int) (f : Int) (t : Nat → List Int), ds = [lotsD K ns k os, logD K ns bs k ws, .tup (ls.map D.int), .int f] ∧ (∀ n ∈ ns, PyData.strOk n = true) ∧ ws.length ≤ 1000 ∧ Ch bs ws t ∧ 0 ≤ k ∧ k ≤ 1000 ∧ (∀ i, i ≤ ws.length → k ≤ (t i).length) ∧ os.length ≤ 1000 ∧ os.Pairwise (· ≤ ·) ∧
  g = .bl (bear os k ws.length t ls f) ∧ M' = M
theorem fo_is_bearable (T : Tx K mg) : ∃ fd, FunD K d_is_bearable.name d_is_bearable.qual (defArgs s_is_bearable) (defBody s_is_bearable) (defScope s_is_bearable) (d_is_bearable.dvs K) (d_is_bearable.kws K) (He.fAd K d_is_bearable.at_) fd ∧ FnOk P w K mg base CX0 (4 + 1) (He.fAd K d_is_bearable.at_) fd ["lots", "log", "liars", "f"] (spD K (rl_is_bearable K)) := by
  obtain ⟨fd, F⟩ := T.f_is_bearable
  have nd := sc_is_bearable.nd
  refine ⟨fd, F, fn_def F sc_is_bearable ?_ ?_⟩
  · rintro ds M g M' ⟨ns, bs, k, ws, os, ls, f, t, rfl, _⟩; rfl
  · rintro cdv A outer s0 H E hr ds M g M' ⟨ns, bs, k, ws, os, ls, f, t, rfl, hok, hl, ch, h1, h1', h2, h3, h4, rfl, rfl⟩
    conv => arg 4; whnf
    apply ss_ret
    · apply ev_to2
      · apply ev_all
        · apply ea_cons
          · apply ev_of_new
            apply en_map0 (own := [("lot", 4)]) (M1 := M') (n := ((List.range (ws.length + 1)).map fun i => tp (fk os k (t i))).length) (Yd := atD ((List.range (ws.length + 1)).map fun i => tp (fk os k (t i)))) (fun i => .bl (decide ((((fk os k (t i)).filter fun n => decide (n ∈ ls)).length : Int) ≤ f)))
            · apply it_tup
              · apply ev_call (cal_lots_of T) hr (by decide)
                · walk_at "ea"
                · exact ⟨ns, bs, k, ws, os, t, rfl, hok, hl, ch, h1, h2, h3, h4, rfl, rfl⟩
                all_goals rfl
              · exact Or.inl rfl
            · walk_at "tg"
            walk_at "blk"
            rfl
            assumption
            exact fun _ => rfl
            · simp; omega
            trivial
            exact fun _ _ => trivial
            · intro i hi s1 H1 C cl fp
              have hi : i < ws.length + 1 := by simpa using hi
              have e : atD ((List.range (ws.length + 1)).map fun i => tp (fk os k (t i))) i = tp (fk os k (t i)) := atD_of (by rw [List.getElem?_map, List.getElem?_range hi]; rfl)
              rw [e]
              have hfl : (fk os k (t i)).length ≤ 1000 := by
                unfold fk
                rw [List.length_take]
                have := List.length_filter_le (fun n => decide (n ∈ t i)) os
                omega
              apply ev_cmp
              · apply ev_call (cal_liars_in T) hr (by decide)
                · walk_at "ea"
                · exact ⟨fk os k (t i), ls, rfl, hfl, rfl, rfl⟩
                all_goals rfl
              · walk_at "ev"
              · exact oc_le
              · walk_at "mark"
          · exact ea_nil
          · rfl
        · exact cd_all (bs := (List.range ((List.range (ws.length + 1)).map fun i => tp (fk os k (t i))).length).map fun i => decide ((((fk os k (t i)).filter fun n => decide (n ∈ ls)).length : Int) ≤ f)) rfl (.inl (by rw [← bl_map]))
        · exact T.n_all
        all_goals rfl
      · rw [List.length_map, List.length_range, List.all_map]
    · exact ⟨rfl, fun _ _ h => h⟩
theorem cal_is_bearable (T : Tx K mg) : Cal P w K mg base (4 + 1) "is_bearable" (rl_is_bearable K) [] := by
  obtain ⟨fd, F, Fn⟩ := fo_is_bearable (P := P) (w := w) (base := base) T
  exact ⟨_, fd, ["lots", "log", "liars", "f"], [], [], Fn, T.g_is_bearable, F.kp, F.bindsN fun _ _ _ _ _ _ us hl => match us, hl with | [_, _, _, _], _ => rfl, .nil, fun _ => .nil⟩
def kw_is_bearable {α : Type} (us ws : List α) : List α := match ws with | [x_f, x_liars, x_log, x_lots] => [x_lots, x_log, x_liars, x_f] | _ => us
theorem calk_is_bearable (T : Tx K mg) : CalK P w K mg base (4 + 1) "is_bearable" (rl_is_bearable K) 0 ["f", "liars", "log", "lots"] kw_is_bearable := by
  obtain ⟨fd, F, Fn⟩ := fo_is_bearable (P := P) (w := w) (base := base) T
  refine ⟨_, fd, ["lots", "log", "liars", "f"], _, _, Fn, T.g_is_bearable, F.kp, kbn0 F 0 ["f", "liars", "log", "lots"] kw_is_bearable ?_ ?_, ?_⟩
  · intro vs zs us ws h1 h2
    unfold kw_is_bearable
    rcases h2 with _ | ⟨h_0, h2⟩
    · exact h1
    rcases h2 with _ | ⟨h_1, h2⟩
    · exact h1
    rcases h2 with _ | ⟨h_2, h2⟩
    · exact h1
    rcases h2 with _ | ⟨h_3, h2⟩
    · exact h1
    rcases h2 with _ | ⟨h_4, h2⟩
    · exact .cons h_3 (.cons h_2 (.cons h_1 (.cons h_0 (.nil))))
    exact h1
  · exact fun _ _ _ _ _ _ us ws h1 h2 => match us, h1, ws, h2 with | [], _, [_, _, _, _], _ => rfl
  · intro S vs ds zs es h1 h2
    unfold kw_is_bearable
    rcases h2 with _ | ⟨h_0, h2⟩
    · exact h1
    rcases h2 with _ | ⟨h_1, h2⟩
    · exact h1
    rcases h2 with _ | ⟨h_2, h2⟩
    · exact h1
    rcases h2 with _ | ⟨h_3, h2⟩
    · exact h1
    rcases h2 with _ | ⟨h_4, h2⟩
    · exact .cons h_3 (.cons h_2 (.cons h_1 (.cons h_0 (.nil))))
    exact h1
end Pr

set_option Elab.async false
set_option linter.all false
set_option maxRecDepth 100000
set_option maxHeartbeats 1000000
open PySem PySem.Spec PyProof.Rows L2 Sy
namespace Pr
theorem rep_lt (c : Nat) : ∀ n : Nat, List.replicate n c < List.replicate (n + 1) c
  | 0 => by simp
  | n + 1 => by
    rw [List.replicate_succ, List.replicate_succ (n := n + 1), List.cons_lt_cons_iff]
    exact .inr ⟨rfl, rep_lt c n⟩
theorem app_lt {a b : Nat} (h : a < b) (x y : List Nat) : ∀ l : List Nat, l ++ (a :: x) < l ++ (b :: y)
  | [] => by
    show a :: x < b :: y
    rw [List.cons_lt_cons_iff]; exact .inl h
  | c :: l => by
    show c :: (l ++ (a :: x)) < c :: (l ++ (b :: y))
    rw [List.cons_lt_cons_iff]; exact .inr ⟨rfl, app_lt h x y l⟩
theorem cps_app (x y : Str) : (x ++ y).cps.toList = x.cps.toList ++ y.cps.toList := by
  show (x.cps ++ y.cps).toList = _
  simp
theorem cps_chr (i : Int) : (chr i).cps.toList = [97 + i.toNat] := rfl
theorem str_len (x : Str) : x.length = x.cps.toList.length := by simp [Str.length]
theorem nmF_cps (u : W3) : ∃ n, n ≤ 4 ∧ (nmF u).cps.toList = List.replicate n (97 + (dip u 26).1.toNat) := by
  have h := mul_chr (97 + (dip u 26).1.toNat) (dip (dip u 26).2 5).1
  have lo := dip_lo (dip u 26).2 (m := 5) (by decide)
  exact ⟨(dip (dip u 26).2 5).1.toNat, by omega, h⟩
theorem nmS_at {fr : Str} {v : W3} : ∀ i j : Nat, j < i → ∃ r : Int, 0 ≤ r ∧ r < 26 ∧ (nmS fr v i).1[j]? = some (fr ++ chr j ++ chr r)
  | 0, j, h => by omega
  | i + 1, j, h => by
    have lo := dip_lo (nmS fr v i).2 (m := 26) (by decide)
    by_cases hj : j < i
    · obtain ⟨r, h1, h2, h3⟩ := nmS_at i j hj
      refine ⟨r, h1, h2, ?_⟩
      show ((nmS fr v i).1 ++ [_])[j]? = _
      rw [List.getElem?_append_left (by rw [nmS_len]; exact hj)]
      exact h3
    · have : j = i := by omega
      subst this
      refine ⟨_, lo.1, lo.2, ?_⟩
      show ((nmS fr v j).1 ++ [_])[j]? = _
      rw [List.getElem?_append_right (by rw [nmS_len]; exact Nat.le_refl _), nmS_len, Nat.sub_self]
      rfl
theorem names_ok {m : Int} {v : W3} (h0 : 0 < m) (h1 : m ≤ 24) : NamesOk (nm m v).1 ∧ (nm m v).1.length = m.toNat := by
  by_cases hc : m < 7 ∧ (dip v 4).1 = 0
  · have e : (nm m v).1 = (rgI 0 m).map fun k => Txt.mul (chr (dip (dip v 4).2 26).1) (k + 1) := by unfold nm; rw [if_pos hc]
    have lo := dip_lo (dip v 4).2 (m := 26) (by decide)
    have hl : (nm m v).1.length = m.toNat := by rw [e, List.length_map, len_rgI]; congr 1; omega
    have hat : ∀ (i : Nat) (h : i < (nm m v).1.length), ((nm m v).1[i]).cps.toList = List.replicate (i + 1) (97 + (dip (dip v 4).2 26).1.toNat) := fun i h => by
      have h2 : (nm m v).1[i]? = some (Txt.mul (chr (dip (dip v 4).2 26).1) ((0 + (i : Int)) + 1)) := by
        rw [e, List.getElem?_map, get_rgI (by omega)]; rfl
      rw [List.getElem?_eq_getElem h] at h2
      have h3 := Option.some.inj h2
      rw [h3]
      have h4 := mul_chr (97 + (dip (dip v 4).2 26).1.toNat) ((0 + (i : Int)) + 1)
      rw [show ((0 + (i : Int)) + 1).toNat = i + 1 by omega] at h4
      exact h4
    refine ⟨⟨by omega, by omega, fun i h => ?_, fun i h => ?_⟩, hl⟩
    · have h2 := hat i h
      refine ⟨?_, ?_, fun c hc' => ?_⟩
      · rw [str_len, h2, List.length_replicate]; omega
      · rw [str_len, h2, List.length_replicate]; omega
      · rw [h2] at hc'
        have := List.eq_of_mem_replicate hc'
        omega
    · rw [hat i (by omega), hat (i + 1) h]
      exact rep_lt _ _
  · have e : (nm m v).1 = (nmS (nmF (nm1 m v)) (dip (dip (nm1 m v) 26).2 5).2 m.toNat).1 := by unfold nm; rw [if_neg hc]
    have hl : (nm m v).1.length = m.toNat := by rw [e, nmS_len]
    obtain ⟨n, hn, hF⟩ := nmF_cps (nm1 m v)
    have lo := dip_lo (nm1 m v) (m := 26) (by decide)
    have hat : ∀ (i : Nat) (h : i < (nm m v).1.length), ∃ r : Int, 0 ≤ r ∧ r < 26 ∧ ((nm m v).1[i]).cps.toList = List.replicate n (97 + (dip (nm1 m v) 26).1.toNat) ++ [97 + i, 97 + r.toNat] := fun i h => by
      obtain ⟨r, h2, h3, h4⟩ := nmS_at (fr := nmF (nm1 m v)) (v := (dip (dip (nm1 m v) 26).2 5).2) m.toNat i (by omega)
      rw [← e, List.getElem?_eq_getElem h] at h4
      have h5 := Option.some.inj h4
      refine ⟨r, h2, h3, ?_⟩
      rw [h5, cps_app, cps_app, hF, cps_chr, cps_chr]
      simp
    refine ⟨⟨by omega, by omega, fun i h => ?_, fun i h => ?_⟩, hl⟩
    · obtain ⟨r, h2, h3, h4⟩ := hat i h
      refine ⟨?_, ?_, fun c hc' => ?_⟩
      · rw [str_len, h4]; simp
      · rw [str_len, h4]; simp; omega
      · rw [h4] at hc'
        rcases List.mem_append.mp hc' with hc' | hc'
        · have := List.eq_of_mem_replicate hc'
          omega
        · simp only [List.mem_cons, List.not_mem_nil, or_false] at hc'
          omega
    · obtain ⟨r, h2, h3, h4⟩ := hat i (by omega)
      obtain ⟨r', h5, h6, h7⟩ := hat (i + 1) h
      rw [h4, h7]
      exact app_lt (by omega) _ _ _
theorem names_str {ns : List Str} (h : NamesOk ns) : ∀ n ∈ ns, PyData.strOk n = true := fun n hn => by
  obtain ⟨i, hi, rfl⟩ := List.getElem_of_mem hn
  have h3 := (h.ok i hi).2.2
  unfold PyData.strOk
  rw [Array.all_eq_true]
  intro j hj
  have := h3 (ns[i].cps[j]) (by simp)
  exact decide_eq_true (by omega)
end Pr

set_option Elab.async false
set_option linter.all false
set_option maxRecDepth 100000
set_option maxHeartbeats 1000000
open PySem PySem.Spec PyProof.Rows L2 Sy
namespace Pr
theorem rgI_lt (a b : Int) : (rgI a b).Pairwise (· < ·) := by
  unfold rgI
  exact List.pairwise_map.mpr (List.pairwise_lt_range.imp fun h => by omega)
theorem rgI_le (a b : Int) : (rgI a b).Pairwise (· ≤ ·) := (rgI_lt a b).imp fun h => Int.le_of_lt h
theorem rgI_nd (a b : Int) : (rgI a b).Nodup := (rgI_lt a b).imp fun h e => by omega
theorem rgI_split {a b c : Int} (h1 : a ≤ b) (h2 : b ≤ c) : rgI a c = rgI a b ++ rgI b c := by
  refine sorted_unique ((List.perm_ext_iff_of_nodup (rgI_nd a c) ?_).mpr fun x => ?_) (rgI_le a c) ?_
  · refine List.nodup_append.mpr ⟨rgI_nd a b, rgI_nd b c, fun x hx y hy e => ?_⟩
    have := mem_rgI.mp hx
    have := mem_rgI.mp hy
    omega
  · rw [List.mem_append, mem_rgI, mem_rgI, mem_rgI]; omega
  · refine List.pairwise_append.mpr ⟨rgI_le a b, rgI_le b c, fun x hx y hy => ?_⟩
    have := mem_rgI.mp hx
    have := mem_rgI.mp hy
    omega
section
variable {k z f : Int} {W : List Int}
def bgn (k z f : Int) : List Int := rgI 0 z ++ rgI (f + 1) (k + f + 1)
def tt (k z f : Int) (W : List Int) (i : Nat) : List Int := (rgI 0 (k + f + 1)).filter fun h => decide (h ∈ bgn k z f ∨ h ∈ W.take i)
theorem mem_bgn {x : Int} : x ∈ bgn k z f ↔ (0 ≤ x ∧ x < z) ∨ (f + 1 ≤ x ∧ x < k + f + 1) := by unfold bgn; rw [List.mem_append, mem_rgI, mem_rgI]
theorem tt_nd (i : Nat) : (tt k z f W i).Nodup := (rgI_nd _ _).filter _
theorem tt_le (i : Nat) : (tt k z f W i).Pairwise (· ≤ ·) := (rgI_le _ _).filter _
theorem mem_tt (hW : W.Perm (rgI z (f + 1))) (hz : 0 ≤ z) (hf : z ≤ f) (hk : f < k) {x : Int} {i : Nat} : x ∈ tt k z f W i ↔ x ∈ bgn k z f ∨ x ∈ W.take i := by
  unfold tt
  rw [List.mem_filter, mem_rgI]
  constructor
  · rintro ⟨_, h⟩; exact of_decide_eq_true h
  · intro h
    refine ⟨?_, decide_eq_true h⟩
    rcases h with h | h
    · have := mem_bgn.mp h; omega
    · have := mem_rgI.mp (hW.mem_iff.mp (List.mem_of_mem_take h)); omega
theorem bgn_nd (hz : 0 ≤ z) (hf : z ≤ f) : (bgn k z f).Nodup := by
  refine List.nodup_append.mpr ⟨rgI_nd _ _, rgI_nd _ _, fun x hx y hy e => ?_⟩
  have := mem_rgI.mp hx
  have := mem_rgI.mp hy
  omega
theorem bgn_le (hz : 0 ≤ z) (hf : z ≤ f) : (bgn k z f).Pairwise (· ≤ ·) := by
  refine List.pairwise_append.mpr ⟨rgI_le _ _, rgI_le _ _, fun x hx y hy => ?_⟩
  have := mem_rgI.mp hx
  have := mem_rgI.mp hy
  omega
theorem tt_zero (hW : W.Perm (rgI z (f + 1))) (hz : 0 ≤ z) (hf : z ≤ f) (hk : f < k) : tt k z f W 0 = bgn k z f := by
  refine sorted_unique ((List.perm_ext_iff_of_nodup (tt_nd 0) (bgn_nd hz hf)).mpr fun x => ?_) (tt_le 0) (bgn_le hz hf)
  rw [mem_tt hW hz hf hk]
  simp
theorem tt_succ (hW : W.Perm (rgI z (f + 1))) (hz : 0 ≤ z) (hf : z ≤ f) (hk : f < k) {i : Nat} (hi : i < W.length) : (tt k z f W (i + 1)).Perm (tt k z f W i ++ [W[i]]) ∧ W[i] ∉ tt k z f W i := by
  have hnd : W.Nodup := hW.nodup_iff.mpr (rgI_nd _ _)
  have hnot : W[i] ∉ W.take i := fun h => by
    obtain ⟨j, hj, e⟩ := List.getElem_of_mem h
    have hj2 : j < i := by rw [List.length_take] at hj; omega
    rw [List.getElem_take] at e
    exact absurd e (List.pairwise_iff_getElem.mp hnd j i (by omega) hi hj2)
  have hno : W[i] ∉ tt k z f W i := fun h => by
    rcases (mem_tt hW hz hf hk).mp h with h | h
    · have h1 := mem_bgn.mp h
      have h2 := mem_rgI.mp (hW.mem_iff.mp (List.getElem_mem hi))
      omega
    · exact hnot h
  refine ⟨(List.perm_ext_iff_of_nodup (tt_nd _) ?_).mpr fun x => ?_, hno⟩
  · refine List.nodup_append.mpr ⟨tt_nd i, by simp, fun x hx y hy e => ?_⟩
    rw [List.mem_singleton.mp hy] at e
    exact hno (by rw [← e]; exact hx)
  · rw [List.mem_append, mem_tt hW hz hf hk, mem_tt hW hz hf hk, List.mem_singleton, List.take_succ, List.getElem?_eq_getElem hi, List.mem_append]
    simp [or_assoc]
theorem tt_parts (hW : W.Perm (rgI z (f + 1))) (hz : 0 ≤ z) (hf : z ≤ f) (hk : f < k) {i : Nat} (hi : i ≤ W.length) : ∃ A, tt k z f W i = A ++ rgI (f + 1) (k + f + 1) ∧ (A.length : Int) = z + i ∧ ∀ x ∈ A, 0 ≤ x ∧ x < f + 1 := by
  have hnd : W.Nodup := hW.nodup_iff.mpr (rgI_nd _ _)
  refine ⟨(rgI 0 (f + 1)).filter fun h => decide (h ∈ bgn k z f ∨ h ∈ W.take i), ?_, ?_, fun x hx => mem_rgI.mp (List.mem_filter.mp hx).1⟩
  · unfold tt
    rw [rgI_split (a := 0) (b := f + 1) (c := k + f + 1) (by omega) (by omega), List.filter_append]
    congr 1
    refine List.filter_eq_self.mpr fun x hx => decide_eq_true (.inl ?_)
    have := mem_rgI.mp hx
    exact mem_bgn.mpr (by omega)
  · have p : ((rgI 0 (f + 1)).filter fun h => decide (h ∈ bgn k z f ∨ h ∈ W.take i)).Perm (rgI 0 z ++ W.take i) := by
      refine (List.perm_ext_iff_of_nodup ((rgI_nd _ _).filter _) ?_).mpr fun x => ?_
      · refine List.nodup_append.mpr ⟨rgI_nd _ _, hnd.sublist (List.take_sublist _ _), fun x hx y hy e => ?_⟩
        have h1 := mem_rgI.mp hx
        have h2 := mem_rgI.mp (hW.mem_iff.mp (List.mem_of_mem_take hy))
        omega
      · rw [List.mem_filter, mem_rgI, List.mem_append, mem_rgI, decide_eq_true_eq, mem_bgn]
        constructor
        · rintro ⟨h1, (h2 | h2) | h2⟩
          · exact .inl h2
          · omega
          · exact .inr h2
        · rintro (h2 | h2)
          · exact ⟨by omega, .inl (.inl h2)⟩
          · have h3 := mem_rgI.mp (hW.mem_iff.mp (List.mem_of_mem_take h2))
            exact ⟨by omega, .inr h2⟩
    rw [p.length_eq, List.length_append, len_rgI, List.length_take]
    omega
theorem tt_fk (i : Nat) : (rgI 0 (k + f + 1)).filter (fun n => decide (n ∈ tt k z f W i)) = tt k z f W i := by
  unfold tt
  refine List.filter_congr fun x hx => decide_eq_decide.mpr ?_
  rw [List.mem_filter, decide_eq_true_eq]
  exact ⟨fun h => h.2, fun h => ⟨hx, h⟩⟩
theorem tt_count (hW : W.Perm (rgI z (f + 1))) (hz : 0 ≤ z) (hf : z ≤ f) (hk : f < k) {i : Nat} (hi : i ≤ W.length) : (((fk (rgI 0 (k + f + 1)) k (tt k z f W i)).filter fun n => decide (n ∈ rgI 0 (f + 1))).length : Int) = z + i := by
  have hWl : (W.length : Int) = f + 1 - z := by rw [hW.length_eq, len_rgI]; omega
  obtain ⟨A, e, hl, hA⟩ := tt_parts hW hz hf hk hi
  unfold fk
  rw [tt_fk, e, List.take_append, List.take_of_length_le (by omega), List.filter_append, List.filter_eq_self.mpr fun x hx => decide_eq_true (mem_rgI.mpr (hA x hx)), List.filter_eq_nil_iff.mpr, List.append_nil]
  · exact hl
  · intro x hx h
    have h1 := mem_rgI.mp (List.mem_of_mem_take hx)
    have h2 := mem_rgI.mp (of_decide_eq_true h)
    omega
theorem tt_bear (hW : W.Perm (rgI z (f + 1))) (hz : 0 ≤ z) (hf : z ≤ f) (hk : f < k) {n : Nat} (hn : n ≤ W.length) (f' : Int) : bear (rgI 0 (k + f + 1)) k n (tt k z f W) (rgI 0 (f + 1)) f' = decide (z + n ≤ f') := by
  unfold bear
  by_cases h : z + n ≤ f'
  · rw [decide_eq_true h, List.all_eq_true]
    intro i hi
    have hi := List.mem_range.mp hi
    rw [tt_count hW hz hf hk (by omega)]
    exact decide_eq_true (by omega)
  · rw [decide_eq_false h, List.all_eq_false]
    refine ⟨n, List.mem_range.mpr (by omega), ?_⟩
    rw [tt_count hW hz hf hk hn]
    simp [h]
theorem tt_ch (hW : W.Perm (rgI z (f + 1))) (hz : 0 ≤ z) (hf : z ≤ f) (hk : f < k) (hk2 : k ≤ 15) (n : Nat) (hn : n ≤ W.length) : Ch (bgn k z f) (W.take n) (tt k z f W) where
  z := tt_zero hW hz hf hk
  st := fun i h => by
    have hi : i < W.length := by rw [List.length_take] at h; omega
    obtain ⟨h1, h2⟩ := tt_succ hW hz hf hk hi
    rw [List.getElem_take]
    exact ⟨h1, tt_le _, h2⟩
  len := fun i h => by
    unfold tt
    refine Nat.le_trans (List.length_filter_le _ _) ?_
    rw [len_rgI]; omega
theorem tt_k (hW : W.Perm (rgI z (f + 1))) (hz : 0 ≤ z) (hf : z ≤ f) (hk : f < k) {i : Nat} (hi : i ≤ W.length) : k ≤ (tt k z f W i).length := by
  obtain ⟨A, e, hl, hA⟩ := tt_parts hW hz hf hk hi
  rw [e, List.length_append, len_rgI]
  omega
theorem up_of {l : List Int} (h : l.Pairwise (· < ·)) : upTrue l = true := by
  unfold upTrue
  rw [List.all_eq_true]
  intro j hj
  have hj := mem_rgI.mp hj
  have h1 : (j - 1).toNat < l.length := by omega
  have h2 : j.toNat < l.length := by omega
  rw [List.getElem?_eq_getElem h1, List.getElem?_eq_getElem h2]
  exact decide_eq_true (List.pairwise_iff_getElem.mp h _ _ h1 h2 (by omega))
theorem bgn_up (hz : 0 ≤ z) (hf : z ≤ f) : upTrue (bgn k z f) = true := up_of (by
  refine List.pairwise_append.mpr ⟨rgI_lt _ _, rgI_lt _ _, fun x hx y hy => ?_⟩
  have := mem_rgI.mp hx
  have := mem_rgI.mp hy
  omega)
end
end Pr

set_option Elab.async false
set_option linter.all false
set_option maxRecDepth 100000
set_option maxHeartbeats 1000000
open PySem PySem.Spec PyProof.Rows L2 Sy
namespace Pr
def tps (z f s : Int) : List (Int × Int) := (rgI z (f + 1)).map fun l => (min s l, max 0 (s - l))
theorem tale_ps (z f s : Int) : tale z f s = (tps z f s).map pr := by unfold tale tps; rw [List.map_map]; rfl
theorem mtb_mv (z f s : Int) : mtb z f s = mv z s (f + 1) := rfl
theorem mv_nn (z s l : Int) : 0 ≤ mv z s l := by
  unfold mv
  have : ∀ L : List Int, 0 ≤ (L.map fun j => max 0 (s - j)).sum := fun L => by
    induction L with
    | nil => simp
    | cons x L ih => simp only [List.map_cons, List.sum_cons]; omega
  exact this _
theorem mv_zero {z s f : Int} (h : z ≤ f) (hz : 0 ≤ z) : mv z s (f + 1) = 0 ↔ s ≤ z := by
  have gen : ∀ L : List Int, ((L.map fun j => max 0 (s - j)).sum = 0 ↔ ∀ j ∈ L, s ≤ j) := fun L => by
    have nn : ∀ L : List Int, 0 ≤ (L.map fun j => max 0 (s - j)).sum := fun L => by
      induction L with
      | nil => simp
      | cons x L ih => simp only [List.map_cons, List.sum_cons]; omega
    induction L with
    | nil => simp
    | cons x L ih =>
      simp only [List.map_cons, List.sum_cons, List.mem_cons, forall_eq_or_imp]
      have h0 := nn L
      constructor
      · intro h
        exact ⟨by omega, ih.mp (by omega)⟩
      · rintro ⟨g1, g2⟩
        have := ih.mpr g2
        omega
  unfold mv
  rw [gen]
  constructor
  · intro h2; exact h2 z (mem_rgI.mpr (by omega))
  · intro h2 j hj
    have := mem_rgI.mp hj
    omega
/-- the tale is right, row by row -/
theorem rows_tale {k z s : Int} (hz : 0 ≤ z) (hs : 0 ≤ s) (hsk : s ≤ k) : ∀ (n : Nat) (a made : Int), 0 ≤ a → z + a + n ≤ k + 1 → rowsOk k z s ((rgI (z + a) (z + a + n)).map fun l => D.tup [.int (min s l), .int (max 0 (s - l))]) a made = some (made + ((rgI (z + a) (z + a + n)).map fun l => max 0 (s - l)).sum)
  | 0, a, made, _, _ => by
    have : rgI (z + a) (z + a + (0 : Nat)) = [] := by
      unfold rgI
      have : (z + a + ((0 : Nat) : Int) - (z + a)).toNat = 0 := by omega
      rw [this]; rfl
    rw [this]
    simp [rowsOk]
  | n + 1, a, made, ha, hn => by
    have e : rgI (z + a) (z + a + (n + 1 : Nat)) = (z + a) :: rgI (z + (a + 1)) (z + (a + 1) + n) := by
      unfold rgI
      have h1 : (z + a + ((n + 1 : Nat) : Int) - (z + a)).toNat = n + 1 := by omega
      have h2 : (z + (a + 1) + (n : Int) - (z + (a + 1))).toNat = n := by omega
      rw [h1, h2, List.range_succ_eq_map]
      simp only [List.map_cons, List.map_map]
      congr 1
      · simp
      · refine List.map_congr_left fun x _ => ?_
        show z + a + ((x + 1 : Nat) : Int) = z + (a + 1) + (x : Int)
        omega
    rw [e]
    simp only [List.map_cons, List.sum_cons]
    have hr : rowOk k z s a (.tup [.int (min s (z + a)), .int (max 0 (s - (z + a)))]) = some (max 0 (s - (z + a))) := by
      simp only [rowOk]
      rw [if_pos]
      omega
    show (match rowOk k z s a (.tup [.int (min s (z + a)), .int (max 0 (s - (z + a)))]) with | none => none | some b => rowsOk k z s _ (a + 1) (made + b)) = _
    rw [hr]
    show rowsOk k z s _ (a + 1) (made + max 0 (s - (z + a))) = _
    rw [rows_tale hz hs hsk n (a + 1) _ (by omega) (by omega)]
    congr 1
    omega
theorem isBr_tale {k z f s : Int} (hz : 0 ≤ z) (hf : z ≤ f) (hk : f < k) (hs : 0 ≤ s) (hsk : s ≤ k) (most : Int) : isBr k z f s most (.tup (tale z f s)) = decide (mv z s (f + 1) ≤ most) := by
  have hl : ((tale z f s).length : Int) = f + 1 - z := by unfold tale; rw [List.length_map, len_rgI]; omega
  have h := rows_tale hz hs hsk (f + 1 - z).toNat 0 0 (by omega) (by omega)
  have e1 : z + 0 + ((f + 1 - z).toNat : Int) = f + 1 := by omega
  have e2 : z + 0 = z := by omega
  rw [e1, e2] at h
  have h2 : rowsOk k z s (tale z f s) 0 0 = some (0 + ((rgI z (f + 1)).map fun l => max 0 (s - l)).sum) := h
  unfold isBr
  simp only
  rw [decide_eq_true hl, h2, Int.zero_add]
  rfl
end Pr

set_option Elab.async false
set_option linter.all false
set_option maxRecDepth 100000
set_option maxHeartbeats 1000000
set_option pp.maxSteps 60
open PySem PySem.Spec PyProof.Rows L2 Sy
namespace Pr
variable {P : Program} {w : World} {K : PySem.W.Frag} {mg : Str → Option Value} {base : Heap}
theorem map_strs (ns : List Str) : (ns.map D.str).length = ns.length := List.length_map ..
theorem cut_take {α : Type} (f : α → D) (l : List α) {n : Int} (h : 0 ≤ n) : Sy.cutD (l.map f) none (some n) = (l.take n.toNat).map f := by
  rw [cut_to _ h, List.map_take]
def tnW (k z f : Int) (v : W3) : W3 := (mixR (rgI z (f + 1)).length (rgI z (f + 1)) (nm (k + f + 1) v).2).2
def tnM (k z f : Int) (v : W3) : List Int := (mixR (rgI z (f + 1)).length (rgI z (f + 1)) (nm (k + f + 1) v).2).1
def rl__law_town_right : Rl := fun ds M g M' => ∃ (q : Addr) (v : W3) (k z f : Int), ds = [.raw (.ref q), .int k, .int z, .int f] ∧ M q = some (.lst (wl v)) ∧ 0 ≤ v.1 ∧ 0 ≤ z ∧ z ≤ f ∧ f < k ∧ k ≤ 12 ∧ g = .bl true ∧ M' = updM M q (.lst (wl (tnW k z f v)))
theorem fo__law_town_right (T : Tx K mg) : ∃ fd, FunD K d__law_town_right.name d__law_town_right.qual (defArgs s__law_town_right) (defBody s__law_town_right) (defScope s__law_town_right) (d__law_town_right.dvs K) (d__law_town_right.kws K) (He.fAd K d__law_town_right.at_) fd ∧ FnOk P w K mg base CX0 (6 + 1) (He.fAd K d__law_town_right.at_) fd ["well", "k", "z", "f"] (spD K rl__law_town_right) := by
  obtain ⟨fd, F⟩ := T.f__law_town_right
  have nd := sc__law_town_right.nd
  refine ⟨fd, F, fn_def F sc__law_town_right ?_ ?_⟩
  · rintro ds M g M' ⟨q, v, k, z, f, rfl, _⟩; rfl
  · rintro cdv A outer s0 H E hr ds M g M' ⟨q, v, k, z, f, rfl, hq, hv, h1, h2, h3, h4, rfl, rfl⟩
    conv => arg 4; whnf
    obtain ⟨nok, nlen⟩ := names_ok (m := k + f + 1) (v := v) (by omega) (by omega)
    have hstr := names_str nok
    have hnl : ((nm (k + f + 1) v).1.length : Int) = k + f + 1 := by rw [nlen]; omega
    generalize hns : (nm (k + f + 1) v).1 = ns at nok nlen hstr hnl
    have v2 : 0 ≤ (nm (k + f + 1) v).2.1 := nm_inv hv
    have hW : (tnM k z f v).Perm (rgI z (f + 1)) := mixR_perm _ _ _ rfl
    have hWl : ((tnM k z f v).length : Int) = f + 1 - z := by rw [hW.length_eq, len_rgI]; omega
    have hos : ((rgI 0 (k + f + 1)).length : Int) = k + f + 1 := by rw [len_rgI]; omega
    walk_at "set"
    apply ss_set 5 (g := town K ns) (M' := updM M q (.lst (wl (nm (k + f + 1) v).2)))
    · apply ev_make (mak_Town T) hr (by decide) (gs := [.tup (ns.map D.str)])
      · apply ea_cons
        · apply ev_to2
          · apply ev_call (cal__law_names T) hr (by decide)
            · walk_at "ea"
            · exact ⟨q, v, k + f + 1, rfl, hq, hv, by omega, by omega, rfl, rfl⟩
            all_goals rfl
          · rw [hns]
        · exact ea_nil
        · rfl
      · exact fun q' hq' => ⟨q', ns, rfl, updM_same, nok, rfl, by rw [updM_updM]; try rfl⟩
      · exact fun _ h => h
      all_goals rfl
    · exact nd
    · rfl
    · first | exact Or.inl rfl | exact Or.inr rfl
    · first | exact Or.inl rfl | exact Or.inr rfl
    · rfl
    apply ss_set 6 (g := lotsD K ns k (rgI 0 (k + f + 1))) (M' := updM M q (.lst (wl (nm (k + f + 1) v).2)))
    · apply ev_make (mak_Lots T) hr (by decide) (gs := [town K ns, .int k, .tup [.str "first", .tup ((rgI 0 (k + f + 1)).map D.int)]])
      · apply ea_cons
        · walk_at "ev"
        · apply ea_cons
          · walk_at "ev"
          · apply ea_cons
            · apply ev_tup
              · apply ea_cons
                · walk_at "ev"
                · apply ea_cons
                  · apply ev_tupRg1
                    · walk_at "ev"
                    · omega
                    · rfl
                    · exact T.n_tuple
                    · exact T.n_range
                    all_goals rfl
                  · exact ea_nil
                  · rfl
                · rfl
              · simp
            · exact ea_nil
            · rfl
          · rfl
        · rfl
      · exact fun q' hq' => ⟨q', ns, k, rgI 0 (k + f + 1), rfl, updM_same, by omega, h4, by omega, by omega, by omega, fun n hn => by have := mem_rgI.mp hn; omega, rgI_nd _ _, rfl, by rw [updM_updM]; try rfl⟩
      · exact fun _ h => h
      all_goals rfl
    · exact nd
    · rfl
    · first | exact Or.inl rfl | exact Or.inr rfl
    · first | exact Or.inl rfl | exact Or.inr rfl
    · rfl
    apply ss_parI (i := 7) (j := 8) (ga := tp (bgn k z f)) (gb := .tup ((rgI 0 (f + 1)).map D.int)) (M1 := updM M q (.lst (wl (nm (k + f + 1) v).2))) (M2 := updM M q (.lst (wl (nm (k + f + 1) v).2)))
    · apply ev_to2
      · apply ev_bin
        · apply ev_tupRg1
          · walk_at "ev"
          · omega
          · rfl
          · exact T.n_tuple
          · exact T.n_range
          all_goals rfl
        · apply ev_tupRg2
          · walk_at "ev"
          · walk_at "ev"
          · omega
          · omega
          · rfl
          · exact T.n_tuple
          · exact T.n_range
          all_goals rfl
        · exact od_addT (by rw [List.length_map, List.length_map, len_rgI, len_rgI]; omega)
      · unfold tp bgn
        rw [List.map_append]
    · apply ev_tupRg1
      · walk_at "ev"
      · omega
      · rfl
      · exact T.n_tuple
      · exact T.n_range
      all_goals rfl
    · exact nd
    · rfl
    · rfl
    · decide
    · rfl
    · rfl
    · rfl
    · rfl
    · rfl
    · rfl
    · rfl
    apply ss_set 9 (g := .tup ((tnM k z f v).map wd)) (M' := updM M q (.lst (wl (tnW k z f v))))
    · apply ev_Ttuple
      · apply ea_cons (g := .lst ((tnM k z f v).map wd))
        · apply ev_of_new
          have hmp : (tnM k z f v).map wd = ((tnM k z f v).map D.int).map (fun d => D.tup [.str "come", d]) := by rw [List.map_map]; rfl
          rw [hmp]
          apply en_mapL (own := [("x", 12)]) (M1 := updM M q (.lst (wl (tnW k z f v)))) (ds := (tnM k z f v).map D.int) (fun d => D.tup [.str "come", d])
          · apply it_list
            · apply ev_toM
              · apply ev_call (cal__law_mixed T) hr (by decide)
                · apply ea_cons
                  · walk_at "ev"
                  · apply ea_cons
                    · apply ev_of_new
                      apply en_listRg2
                      · walk_at "ev"
                      · walk_at "ev"
                      · omega
                      · omega
                      · rfl
                      · exact T.n_list
                      · exact T.n_range
                      all_goals rfl
                    · exact ea_nil
                    · rfl
                  · rfl
                · exact ⟨q, (nm (k + f + 1) v).2, rgI z (f + 1), rfl, updM_same, v2, by rw [len_rgI]; omega, rfl, rfl⟩
                all_goals rfl
              · rw [updM_updM]; rfl
            · exact Or.inl rfl
          · walk_at "tg"
          walk_at "blk"
          rfl
          assumption
          exact fun _ => rfl
          · rw [List.length_map]; omega
          trivial
          exact fun _ _ => trivial
          · intro d hd s1 H1 C cl fp
            obtain ⟨n, hn, rfl⟩ := List.mem_map.mp hd
            walk_at "ev"
        · exact ea_nil
        · rfl
      · exact cd_tupleL (.inl rfl)
      · exact T.n_tuple
      all_goals rfl
    · exact nd
    · rfl
    · first | exact Or.inl rfl | exact Or.inr rfl
    · first | exact Or.inl rfl | exact Or.inr rfl
    · rfl
    generalize hWd : tnM k z f v = W at hW hWl
    have hwl : (W.map wd).length = W.length := List.length_map ..
    apply ss_for (Iv := fun i Γ M2 => M2 = updM M q (.lst (wl (tnW k z f v))) ∧ ∃ x y, Γ = [some (.raw (.ref q)), some (.int k), some (.int z), some (.int f), some (.int (k + f + 1)), some (town K ns), some (lotsD K ns k (rgI 0 (k + f + 1))), some (tp (bgn k z f)), some (.tup ((rgI 0 (f + 1)).map D.int)), some (.tup (W.map wd)), x, y, none])
      (up := fun i Γ => Γ.set 10 (some (.int (0 + (i : Int)))))
    · apply it_range1
      · apply ev_bin
        · apply ev_len
          · walk_at "ea"
          · exact cd_len (.inr (.inl rfl))
          · exact T.n_len
          all_goals rfl
        · walk_at "ev"
        · exact od_add
      · omega
      · exact T.n_range
      · rfl
      · rfl
    · exact PassesOwn.never
    · rfl
    · exact fun _ => rfl
    · exact ⟨rfl, none, none, rfl⟩
    · exact fun _ _ _ _ _ => trivial
    · rintro i Γ M2 hi ⟨_, x, y, rfl⟩
      walk_at "tg1"
    · rintro i Γ M2 hi ⟨rfl, x, y, rfl⟩
      have hi : i ≤ W.length := by omega
      have ch := tt_ch hW h1 h2 h3 (by omega) i hi
      have hti : ((W.take i).length : Nat) = i := by rw [List.length_take]; omega
      have hbear := fun f' => tt_bear hW h1 h2 h3 hi f'
      have hrel : ∀ (f' : Int) (M2 : MS), rl_is_bearable K [lotsD K ns k (rgI 0 (k + f + 1)), logD K ns (bgn k z f) k (W.take i), .tup ((rgI 0 (f + 1)).map D.int), .int f'] M2 (.bl (decide (z + i ≤ f'))) M2 := fun f' M2 => by
        refine ⟨ns, bgn k z f, k, W.take i, rgI 0 (k + f + 1), rgI 0 (f + 1), f', tt k z f W, rfl, hstr, by omega, ch, by omega, by omega, fun j hj => tt_k hW h1 h2 h3 (by omega), by omega, rgI_le _ _, ?_, rfl⟩
        rw [hti, hbear]
      show SS _ [some (.raw (.ref q)), some (.int k), some (.int z), some (.int f), some (.int (k + f + 1)), some (town K ns), some (lotsD K ns k (rgI 0 (k + f + 1))), some (tp (bgn k z f)), some (.tup ((rgI 0 (f + 1)).map D.int)), some (.tup (W.map wd)), some (.int (0 + (i : Int))), y, none] _ _ _
      have hbl : (bgn k z f).length = (z + k).toNat := by unfold bgn; rw [List.length_append, len_rgI, len_rgI]; omega
      apply ss_set 11 (g := logD K ns (bgn k z f) k (W.take i)) (M' := updM M q (.lst (wl (tnW k z f v))))
      · apply ev_make (mak_Log T) hr (by decide) (gs := [town K ns, tp (bgn k z f), .int k, .tup ((W.take i).map wd)])
        · apply ea_cons
          · walk_at "ev"
          · apply ea_cons
            · walk_at "ev"
            · apply ea_cons
              · walk_at "ev"
              · apply ea_cons
                · apply ev_to2
                  · apply ev_slT
                    · walk_at "ev"
                    · walk_at "eo"
                    · walk_at "eo"
                    · rfl
                  · rw [cut_take wd W (by omega), show (0 + (i : Int)).toNat = i by omega]
                · exact ea_nil
                · rfl
              · rfl
            · rfl
          · rfl
        · refine fun q' hq' => ⟨q', ns, bgn k z f, k, W.take i, rfl, updM_same, by omega, fun n hn => ?_, bgn_up h1 h2, by omega, by omega, by omega, fun n hn => ?_, rfl, by rw [updM_updM]; try rfl⟩
          · have := mem_bgn.mp hn; omega
          · have := mem_rgI.mp (hW.mem_iff.mp (List.mem_of_mem_take hn)); omega
        · exact fun _ h => h
        all_goals rfl
      · exact nd
      · rfl
      · first | exact Or.inl rfl | exact Or.inr rfl
      · first | exact Or.inl rfl | exact Or.inr rfl
      · rfl
      apply ss_ifF (t := false) (M' := updM M q (.lst (wl (tnW k z f v))))
      · apply et_toF (t := !true)
        · apply et_not
          apply et_of
          · apply ev_call (cal__law_like T 0) hr (by decide) (gs := [.bl (decide (z + (i : Int) ≤ f)), .bl (decide (z + (i : Int) ≤ f))])
            · apply ea_cons
              · apply ev_call (cal_is_bearable T) hr (by decide)
                · walk_at "ea"
                · exact hrel f _
                all_goals rfl
              · apply ea_cons
                · apply ev_to2
                  · apply ev_cmp
                    · walk_at "ev"
                    · apply ev_len
                      · walk_at "ea"
                      · exact cd_len (.inr (.inl rfl))
                      · exact T.n_len
                      all_goals rfl
                    · exact oc_lt
                    · walk_at "mark"
                  · refine congrArg D.bl (decide_eq_decide.mpr ?_)
                    omega
                · exact ea_nil
                · rfl
              · rfl
            · exact ⟨_, rfl, trivial, rfl, rfl⟩
            all_goals rfl
          · exact fun _ => rfl
        · rfl
      · rfl
      apply ss_ifF (t := false) (M' := updM M q (.lst (wl (tnW k z f v))))
      · apply et_toF (t := !true)
        · apply et_not
          apply et_of
          · apply ev_call (cal__law_like T 0) hr (by decide) (gs := [.bl true, .bl true])
            · apply ea_cons
              · apply ev_to2
                · apply ev_callK0 (calk_is_bearable T) hr (by decide)
                  · walk_at "ek"
                  · rfl
                  · exact hrel (z + (0 + (i : Int))) _
                  all_goals rfl
                · exact congrArg D.bl (decide_eq_true (by omega))
              · walk_at "ea"
              · rfl
            · exact ⟨_, rfl, trivial, rfl, rfl⟩
            all_goals rfl
          · exact fun _ => rfl
        · rfl
      · rfl
      apply ss_ifF (t := false) (M' := updM M q (.lst (wl (tnW k z f v))))
      · apply et_w
        by_cases hp : 0 < z + (0 + (i : Int))
        · apply ew_andT
          · apply et_toT
            · walk_at "et"
            · exact decide_eq_true hp
          · apply ew_and1
            apply et_toF (t := !true)
            · apply et_not
              apply et_of
              · apply ev_call (cal__law_like T 0) hr (by decide) (gs := [.bl false, .bl false])
                · apply ea_cons
                  · apply ev_to2
                    · apply ev_call (cal_is_bearable T) hr (by decide)
                      · walk_at "ea"
                      · exact hrel (z + (0 + (i : Int)) - 1) _
                      all_goals rfl
                    · exact congrArg D.bl (decide_eq_false (by omega))
                  · walk_at "ea"
                  · rfl
                · exact ⟨_, rfl, trivial, rfl, rfl⟩
                all_goals rfl
              · exact fun _ => rfl
            · rfl
        · apply ew_andF
          apply et_toF
          · walk_at "et"
          · exact decide_eq_false hp
      · rfl
      exact ss_nil ⟨rfl, _, _, rfl⟩
    · rintro Γ M2 ⟨rfl, x, y, rfl⟩
      apply ss_ret
      · exact ev_bl
      · exact ⟨rfl, fun _ _ h => h⟩
theorem cal__law_town_right (T : Tx K mg) : Cal P w K mg base (6 + 1) "_law_town_right" rl__law_town_right [] := by
  obtain ⟨fd, F, Fn⟩ := fo__law_town_right (P := P) (w := w) (base := base) T
  exact ⟨_, fd, ["well", "k", "z", "f"], [], [], Fn, T.g__law_town_right, F.kp, F.bindsN fun _ _ _ _ _ _ us hl => match us, hl with | [_, _, _, _], _ => rfl, .nil, fun _ => .nil⟩
end Pr

set_option Elab.async false
set_option linter.all false
set_option maxRecDepth 100000
set_option maxHeartbeats 1000000
set_option pp.maxSteps 60
open PySem PySem.Spec PyProof.Rows L2 Sy
namespace Pr
variable {P : Program} {w : World} {K : PySem.W.Frag} {mg : Str → Option Value} {base : Heap}
theorem tale_lk {ps : List (Int × Int)} (h : ps.length ≤ 1000) : lk 2 (.tup (ps.map pr)) := by
  refine ⟨by rw [List.length_map]; exact h, fun e he => ?_⟩
  obtain ⟨p, _, rfl⟩ := List.mem_map.mp he
  refine ⟨by simp, fun e he => ?_⟩
  simp only [List.mem_cons, List.not_mem_nil, or_false] at he
  rcases he with rfl | rfl <;> trivial
theorem tps_len (z f s : Int) : (tps z f s).length = (f + 1 - z).toNat := by unfold tps; rw [List.length_map, len_rgI]
theorem tps_b {z f s : Int} (hs : s ≤ 12) (hz : 0 ≤ z) : ∀ p ∈ tps z f s, p.2.natAbs ≤ 1000 := fun p hp => by
  obtain ⟨l, hl, rfl⟩ := List.mem_map.mp hp
  have := mem_rgI.mp hl
  show (max 0 (s - l)).natAbs ≤ 1000
  omega
theorem tale_valOk {ps : List (Int × Int)} (h : ps.length ≤ 1000) : valOk (.tup (ps.map pr)) := valOk_tup (by rw [List.length_map]; exact h) fun r hr => by
  obtain ⟨p, _, rfl⟩ := List.mem_map.mp hr
  exact rowG_pr p
theorem mosts (a b c d : Int) {i : Nat} (h : i < 4) : ∃ m, atD [.int a, .int b, .int c, .int d] i = .int m := by
  have : i = 0 ∨ i = 1 ∨ i = 2 ∨ i = 3 := by omega
  rcases this with rfl | rfl | rfl | rfl <;> exact ⟨_, rfl⟩
def rl_law : Rl := fun ds M g M' => ∃ ns : List Int, ds = [.ro (ns.map D.int)] ∧ g = .bl true ∧ M' = M
theorem fo_law (T : Tx K mg) {fd : FuncData} (F : FunD K d_law.name d_law.qual (defArgs s_law) (defBody s_law) (defScope s_law) (d_law.dvs K) (d_law.kws K) (He.fAd K d_law.at_) fd) : FnOk P w K mg base CX0 (7 + 1) (He.fAd K d_law.at_) fd ["script"] (spD K rl_law) := by
  have nd := sc_law.nd
  refine fn_def F sc_law ?_ ?_
  · rintro ds M g M' ⟨ns, rfl, _⟩; rfl
  · rintro cdv A outer s0 H E hr ds M0 g M' ⟨ns, rfl, rfl, rfl⟩
    conv => arg 4; whnf
    have hlen : (ns.map D.int).length = ns.length := List.length_map ..
    apply ss_for (Iv := fun i Γ M2 => M2 = M' ∧ ∃ x1 x2 x3 x4 x5 x6 x7 x8 x9 x10 x11, Γ = [some (.ro (ns.map D.int)), x1, x2, x3, x4, x5, x6, x7, x8, x9, x10, x11, none])
      (up := fun i Γ => Γ.set 1 (some (.int (0 + (i : Int)))))
    · apply it_range1
      · walk_at "ev"
      · omega
      · exact T.n_range
      · rfl
      · rfl
    · exact PassesOwn.never
    · rfl
    · exact fun _ => rfl
    · exact ⟨rfl, _, _, _, _, _, _, _, _, _, _, _, rfl⟩
    · exact fun _ _ _ _ _ => trivial
    · rintro i Γ M2 hi ⟨_, x1, x2, x3, x4, x5, x6, x7, x8, x9, x10, x11, rfl⟩
      walk_at "tg1"
    · rintro i Γ M2 hi ⟨rfl, x1, x2, x3, x4, x5, x6, x7, x8, x9, x10, x11, rfl⟩
      have hi3 : i < 3 := by omega
      show SS _ [some (.ro (ns.map D.int)), some (.int (0 + (i : Int))), x2, x3, x4, x5, x6, x7, x8, x9, x10, x11, none] _ _ _
      apply ss_setN 2 (ds := wl (w0 ns (0 + (i : Int)))) (M' := M2)
      · apply en_call (cal__law_well T) hr (by decide)
        · walk_at "ea"
        · exact ⟨ns, _, rfl, by omega, by omega, rfl, rfl⟩
        all_goals rfl
      · exact nd
      · rfl
      · first | exact Or.inl rfl | exact Or.inr rfl
      · first | exact Or.inl rfl | exact Or.inr rfl
      · rfl
      intro q hq
      have hw0 := w0_nn ns (k := 0 + (i : Int)) (by omega)
      generalize w0 ns (0 + (i : Int)) = w1 at hw0
      have lo1 := dip_lo w1 (m := 12) (by decide)
      have hw1 : 0 ≤ (dip w1 12).2.1 := dip_inv (by decide) hw0
      apply ss_set 3 (g := .int (1 + (dip w1 12).1)) (M' := updM M2 q (.lst (wl (dip w1 12).2)))
      · apply ev_bin
        · walk_at "ev"
        · apply ev_toM
          · apply ev_call (cal__law_dip T) hr (by decide)
            · walk_at "ea"
            · exact ⟨q, _, _, rfl, updM_same, hw0, by decide, by decide, rfl, rfl⟩
            all_goals rfl
          · exact updM_updM
        · exact od_add
      · exact nd
      · rfl
      · first | exact Or.inl rfl | exact Or.inr rfl
      · first | exact Or.inl rfl | exact Or.inr rfl
      · rfl
      generalize (dip w1 12).2 = w2 at hw1
      obtain ⟨k, hk⟩ : ∃ k, k = 1 + (dip w1 12).1 := ⟨_, rfl⟩
      rw [← hk]
      have hk1 : 1 ≤ k := by omega
      have hk2 : k ≤ 12 := by omega
      clear lo1
      have lo2 := dip_lo w2 (m := k) (by omega)
      have hw2 : 0 ≤ (dip w2 k).2.1 := dip_inv (by omega) hw1
      have lo3 := dip_lo (dip w2 k).2 (m := k) (by omega)
      have hw3 : 0 ≤ (dip (dip w2 k).2 k).2.1 := dip_inv (by omega) hw2
      apply ss_asg (g := .tup [.int (dip w2 k).1, .int (1 + (dip (dip w2 k).2 k).1)]) (M' := updM M2 q (.lst (wl (dip (dip w2 k).2 k).2)))
      · apply ev_tup
        · apply ea_cons
          · apply ev_toM (M2 := updM M2 q (.lst (wl (dip w2 k).2)))
            · apply ev_call (cal__law_dip T) hr (by decide)
              · walk_at "ea"
              · exact ⟨q, _, _, rfl, updM_same, hw1, by omega, by omega, rfl, rfl⟩
              all_goals rfl
            · exact updM_updM
          · apply ea_cons
            · apply ev_bin
              · walk_at "ev"
              · apply ev_toM
                · apply ev_call (cal__law_dip T) hr (by decide)
                  · walk_at "ea"
                  · exact ⟨q, _, _, rfl, updM_same, hw2, by omega, by omega, rfl, rfl⟩
                  all_goals rfl
                · exact updM_updM
              · exact od_add
            · exact ea_nil
            · rfl
          · rfl
        · simp
      · walk_at "tg2"
      · rfl
      · rfl
      · rfl
      generalize (dip (dip w2 k).2 k).2 = w3 at hw3
      obtain ⟨f, hf⟩ : ∃ f, f = (dip w2 k).1 := ⟨_, rfl⟩
      obtain ⟨s, hs⟩ : ∃ s, s = 1 + (dip (dip w2 k).2 k).1 := ⟨_, rfl⟩
      rw [← hf, ← hs]
      have hf1 : 0 ≤ f := by omega
      have hf2 : f < k := by omega
      have hs1 : 1 ≤ s := by omega
      have hs2 : s ≤ k := by omega
      clear lo2 lo3
      have lo4 := dip_lo w3 (m := f + 1) (by omega)
      have hw4 : 0 ≤ (dip w3 (f + 1)).2.1 := dip_inv (by omega) hw3
      apply ss_set 6 (g := .int (dip w3 (f + 1)).1) (M' := updM M2 q (.lst (wl (dip w3 (f + 1)).2)))
      · apply ev_toM
        · apply ev_call (cal__law_dip T) hr (by decide)
          · walk_at "ea"
          · exact ⟨q, _, _, rfl, updM_same, hw3, by omega, by omega, rfl, rfl⟩
          all_goals rfl
        · exact updM_updM
      · exact nd
      · rfl
      · first | exact Or.inl rfl | exact Or.inr rfl
      · first | exact Or.inl rfl | exact Or.inr rfl
      · rfl
      generalize (dip w3 (f + 1)).2 = w4 at hw4
      obtain ⟨z, hz⟩ : ∃ z, z = (dip w3 (f + 1)).1 := ⟨_, rfl⟩
      rw [← hz]
      have hz1 : 0 ≤ z := by omega
      have hz2 : z ≤ f := by omega
      clear lo4
      have hbr := fun most => isBr_tale (k := k) hz1 hz2 hf2 (s := s) (by omega) hs2 most
      have hdz := mv_zero (s := s) hz2 hz1
      have hdn := mv_nn z s (f + 1)
      have hmt : mtb z f s = mv z s (f + 1) := rfl
      apply ss_set 7 (g := .int (mv z s (f + 1))) (M' := updM M2 q (.lst (wl w4)))
      · apply ev_call (cal__law_walked T) hr (by decide)
        · walk_at "ea"
        · exact ⟨k, z, f, s, rfl, hz1, hz2, hf2, by omega, by omega, hs2, rfl, rfl⟩
        all_goals rfl
      · exact nd
      · rfl
      · first | exact Or.inl rfl | exact Or.inr rfl
      · first | exact Or.inl rfl | exact Or.inr rfl
      · rfl
      generalize hdue : mv z s (f + 1) = due at hbr hdz hdn hmt
      show SS _ [some (.ro (ns.map D.int)), some (.int (0 + (i : Int))), some (.raw (.ref q)), some (.int k), some (.int f), some (.int s), some (.int z), some (.int due), x8, x9, x10, x11, none] _ _ _
      apply ss_ifF (t := false) (M' := updM M2 q (.lst (wl w4)))
      · apply et_w
        apply ew_orF
        · apply et_toF (t := !true)
          · apply et_not
            apply et_of
            · apply ev_call (cal__law_like T 0) hr (by decide) (gs := [.int due, .int due])
              · apply ea_cons
                · apply ev_to2
                  · apply ev_call (cal_mistakes_to_break T) hr (by decide)
                    · walk_at "ea"
                    · exact ⟨z, f, s, rfl, by omega, by omega, by omega, by omega, rfl, rfl⟩
                    all_goals rfl
                  · rw [hmt]
                · walk_at "ea"
                · rfl
              · exact ⟨_, rfl, trivial, rfl, rfl⟩
              all_goals rfl
            · exact fun _ => rfl
          · rfl
        · apply ew_or1
          apply et_toF (t := !true)
          · apply et_not
            apply et_of
            · apply ev_call (cal__law_like T 0) hr (by decide) (gs := [.int due, .int due])
              · apply ea_cons
                · apply ev_to2
                  · apply ev_callK0 (calk_mistakes_to_break T) hr (by decide)
                    · walk_at "ek"
                    · rfl
                    · exact ⟨z, f, s, rfl, by omega, by omega, by omega, by omega, rfl, rfl⟩
                    all_goals rfl
                  · rw [hmt]
                · walk_at "ea"
                · rfl
              · exact ⟨_, rfl, trivial, rfl, rfl⟩
              all_goals rfl
            · exact fun _ => rfl
          · rfl
      · rfl
      apply ss_ifF (t := false) (M' := updM M2 q (.lst (wl w4)))
      · apply et_w
        apply ew_orF
        · apply et_toF
          · apply et_cmp
            · walk_at "ev"
            · walk_at "ev"
            · exact oc_neB
            · walk_at "mark"
          · have : decide (due = 0) = decide (s ≤ z) := decide_eq_decide.mpr hdz
            rw [this]
            simp
        · apply ew_orF
          · apply et_toF (t := !true)
            · apply et_not
              apply et_of
              · apply ev_call (cal__law_like T 0) hr (by decide) (gs := [.int (k - f), .int (k - f)])
                · apply ea_cons
                  · apply ev_call (cal_best_askers T) hr (by decide)
                    · walk_at "ea"
                    · exact ⟨k, f, rfl, rfl, rfl⟩
                    all_goals rfl
                  · walk_at "ea"
                  · rfl
                · exact ⟨_, rfl, trivial, rfl, rfl⟩
                all_goals rfl
              · exact fun _ => rfl
            · rfl
          · apply ew_or1
            apply et_toF (t := !true)
            · apply et_not
              apply et_of
              · apply ev_call (cal__law_like T 0) hr (by decide) (gs := [.int (k - f), .int (k - f)])
                · apply ea_cons
                  · apply ev_callK0 (calk_best_askers T) hr (by decide)
                    · walk_at "ek"
                    · rfl
                    · exact ⟨k, f, rfl, rfl, rfl⟩
                    all_goals rfl
                  · walk_at "ea"
                  · rfl
                · exact ⟨_, rfl, trivial, rfl, rfl⟩
                all_goals rfl
              · exact fun _ => rfl
            · rfl
      · rfl
      have hpl : (tps z f s).length ≤ 1000 := by rw [tps_len]; omega
      have hpl2 : (tps z f s).length ≤ 100 := by rw [tps_len]; omega
      have hpl0 : 0 < (tps z f s).length := by rw [tps_len]; omega
      have hpb := tps_b (z := z) (f := f) (s := s) (by omega) hz1
      have htp := tale_ps z f s
      generalize tps z f s = ps at hpl hpl2 hpl0 hpb htp
      have hvt := tale_valOk hpl
      have hlk := tale_lk hpl
      have hbr2 : ∀ most, isBr k z f s most (.tup (ps.map pr)) = decide (due ≤ most) := fun most => by rw [← htp]; exact hbr most
      apply ss_set 8 (g := .tup (ps.map pr)) (M' := updM M2 q (.lst (wl w4)))
      · apply ev_to2
        · apply ev_call (cal_breaking T) hr (by decide)
          · walk_at "ea"
          · exact ⟨z, f, s, rfl, by omega, by omega, by omega, by omega, rfl, rfl⟩
          all_goals rfl
        · rw [htp]
      · exact nd
      · rfl
      · first | exact Or.inl rfl | exact Or.inr rfl
      · first | exact Or.inl rfl | exact Or.inr rfl
      · rfl
      apply ss_ifF (t := false) (M' := updM M2 q (.lst (wl w4)))
      · apply et_toF (t := !true)
        · apply et_not
          apply et_of
          · apply ev_call (cal__law_like T 2) hr (by decide) (gs := [.tup (ps.map pr), .tup (ps.map pr)])
            · apply ea_cons
              · walk_at "ev"
              · apply ea_cons
                · apply ev_to2 (g := .tup (tale z f s))
                  · apply ev_Ttuple
                    · apply ea_cons
                      · apply ev_of_new
                        apply en_mapR (own := [("liars", 12)]) (hi' := f + 1) (M1 := updM M2 q (.lst (wl w4))) (fun l : Int => .tup [.int (min s l), .int (max 0 (s - l))])
                        · walk_at "rg2"
                        · walk_at "tg"
                        walk_at "cx"
                        · intro j h1 h2 s1 H1 C cl fp
                          exact ev_to (by walk_at "ev") rfl rfl
                      · exact ea_nil
                      · rfl
                    · exact cd_tupleL (.inl rfl)
                    · exact T.n_tuple
                    all_goals rfl
                  · rw [htp]
                · exact ea_nil
                · rfl
              · rfl
            · exact ⟨_, rfl, hlk, rfl, rfl⟩
            all_goals rfl
          · exact fun _ => rfl
        · rfl
      · rfl
      apply ss_ifF (t := false) (M' := updM M2 q (.lst (wl w4)))
      · apply et_w
        apply ew_orF
        · apply et_toF (t := !true)
          · apply et_not
            apply et_of
            · apply ev_to2
              · apply ev_call (cal__law_is_tale T) hr (by decide)
                · walk_at "ea"
                · exact ⟨k, z, f, s, due, _, rfl, hvt, rfl, rfl⟩
                all_goals rfl
              · rw [hbr2]; exact congrArg D.bl (decide_eq_true (Int.le_refl _))
            · exact fun _ => rfl
          · rfl
        · apply ew_or1
          apply et_toF (t := !true)
          · apply et_not
            apply et_of
            · apply ev_call (cal__law_like T 0) hr (by decide) (gs := [.bl true, .bl true])
              · apply ea_cons
                · apply ev_to2
                  · apply ev_call (cal_is_breaking T) hr (by decide)
                    · walk_at "ea"
                    · exact ⟨k, z, f, s, due, _, rfl, hvt, rfl, rfl⟩
                    all_goals rfl
                  · rw [hbr2]; exact congrArg D.bl (decide_eq_true (Int.le_refl _))
                · walk_at "ea"
                · rfl
              · exact ⟨_, rfl, trivial, rfl, rfl⟩
              all_goals rfl
            · exact fun _ => rfl
          · rfl
      · rfl
      apply ss_ifF (t := false) (M' := updM M2 q (.lst (wl w4)))
      · apply et_w
        by_cases hp : 0 < due
        · apply ew_andT
          · apply et_toT
            · walk_at "et"
            · exact decide_eq_true hp
          · apply ew_and1
            apply et_toF (t := !true)
            · apply et_not
              apply et_of
              · apply ev_call (cal__law_like T 0) hr (by decide) (gs := [.bl false, .bl false])
                · apply ea_cons
                  · apply ev_to2
                    · apply ev_call (cal_is_breaking T) hr (by decide)
                      · walk_at "ea"
                      · exact ⟨k, z, f, s, due - 1, _, rfl, hvt, rfl, rfl⟩
                      all_goals rfl
                    · rw [hbr2]; exact congrArg D.bl (decide_eq_false (by omega))
                  · walk_at "ea"
                  · rfl
                · exact ⟨_, rfl, trivial, rfl, rfl⟩
                all_goals rfl
              · exact fun _ => rfl
            · rfl
        · apply ew_andF
          apply et_toF
          · walk_at "et"
          · exact decide_eq_false hp
      · rfl
      apply ss_for (Iv := fun j Γ M3 => ∃ u : W3, 0 ≤ u.1 ∧ M3 = updM M2 q (.lst (wl u)) ∧ ∃ y9 y10 y11, Γ = [some (.ro (ns.map D.int)), some (.int (0 + (i : Int))), some (.raw (.ref q)), some (.int k), some (.int f), some (.int s), some (.int z), some (.int due), some (.tup (ps.map pr)), y9, y10, y11, none])
        (up := fun j Γ => Γ.set 9 (some (.int (0 + (j : Int)))))
      · walk_at "rg1"
      · exact PassesOwn.never
      · rfl
      · exact fun _ => rfl
      · exact ⟨w4, hw4, rfl, _, _, _, rfl⟩
      · exact fun _ _ _ _ _ => trivial
      · rintro j Γ M3 hj ⟨u, hu, _, y9, y10, y11, rfl⟩
        walk_at "tg1"
      · rintro j Γ M3 hj ⟨u, hu, rfl, y9, y10, y11, rfl⟩
        have hb1 := bent_ok (ps := ps) u hpl2
        have hb2 := bent_inv (ps := ps) (v := u) hpl0 hu
        generalize hbv : bent ps u = bv at hb1 hb2
        have lo5 := dip_lo bv.2 (m := 4) (by decide)
        obtain ⟨mo, hmo⟩ := mosts due (due + 1) (max 0 (due - 1)) ((10 : Int) ^ (9 : Int).toNat) (i := (dip bv.2 4).1.toNat) (by omega)
        have hw5 : 0 ≤ (dip bv.2 4).2.1 := dip_inv (by decide) hb2
        apply ss_parI (i := 10) (j := 11) (ga := bv.1) (gb := .int mo) (M1 := updM M2 q (.lst (wl bv.2))) (M2 := updM M2 q (.lst (wl (dip bv.2 4).2)))
        · apply ev_toM
          · apply ev_call (cal__law_bent T) hr (by decide)
            · walk_at "ea"
            · exact ⟨q, u, ps, rfl, updM_same, hu, hpl0, hpl2, hpb, by rw [hbv], rfl⟩
            all_goals rfl
          · rw [updM_updM, hbv]
        · apply ev_toM
          · apply ev_call (cal__law_one T) hr (by decide)
            · walk_at "ea"
            · exact ⟨q, _, updM_same, hb2, .inl ⟨_, _, rfl, .inl rfl, by show 0 < 4; decide, by show 4 ≤ 1000; decide, hmo.symm, rfl⟩⟩
            all_goals rfl
          · rw [updM_updM]; rfl
        · exact nd
        · rfl
        · rfl
        · decide
        · rfl
        · first | rfl | decide
        · first | rfl | decide
        · rfl
        · rfl
        · rfl
        · rfl
        apply ss_ifF (t := false) (M' := updM M2 q (.lst (wl (dip bv.2 4).2)))
        · apply et_toF (t := !true)
          · apply et_not
            apply et_of
            · apply ev_call (cal__law_like T 0) hr (by decide) (gs := [.bl (isBr k z f s mo bv.1), .bl (isBr k z f s mo bv.1)])
              · apply ea_cons
                · apply ev_callK0 (calk_is_breaking T) hr (by decide)
                  · walk_at "ek"
                  · rfl
                  · exact ⟨k, z, f, s, mo, _, rfl, hb1, rfl, rfl⟩
                  all_goals rfl
                · apply ea_cons
                  · apply ev_call (cal__law_is_tale T) hr (by decide)
                    · walk_at "ea"
                    · exact ⟨k, z, f, s, mo, _, rfl, hb1, rfl, rfl⟩
                    all_goals rfl
                  · exact ea_nil
                  · rfl
                · rfl
              · exact ⟨_, rfl, trivial, rfl, rfl⟩
              all_goals rfl
            · exact fun _ => rfl
          · rfl
        · rfl
        exact ss_nil ⟨_, hw5, rfl, _, _, _, rfl⟩
      · rintro Γ M3 ⟨u, hu, rfl, y9, y10, y11, rfl⟩
        apply ss_ifF (t := false) (M' := updM M2 q (.lst (wl (tnW k z f u))))
        · apply et_w
          apply ew_orF (M1 := updM M2 q (.lst (wl u)))
          · apply et_toF (t := !true)
            · apply et_not
              apply et_of
              · apply ev_call (cal__law_like T 2) hr (by decide) (gs := [.tup (ps.map pr), .tup (ps.map pr)])
                · apply ea_cons
                  · apply ev_to2
                    · apply ev_callK0 (calk_breaking T) hr (by decide)
                      · walk_at "ek"
                      · rfl
                      · exact ⟨z, f, s, rfl, by omega, by omega, by omega, by omega, rfl, rfl⟩
                      all_goals rfl
                    · rw [htp]
                  · walk_at "ea"
                  · rfl
                · exact ⟨_, rfl, hlk, rfl, rfl⟩
                all_goals rfl
              · exact fun _ => rfl
            · rfl
          · apply ew_or1
            apply et_toF (t := !true)
            · apply et_not
              apply et_of
              · apply ev_toM
                · apply ev_call (cal__law_town_right T) hr (by decide)
                  · walk_at "ea"
                  · exact ⟨q, u, k, z, f, rfl, updM_same, hu, hz1, hz2, hf2, hk2, rfl, rfl⟩
                  all_goals rfl
                · exact updM_updM
              · exact fun _ => rfl
            · rfl
        · rfl
        apply ss_less (M' := M2)
        · exact ss_nil ⟨rfl, _, _, _, _, _, _, _, _, _, _, _, rfl⟩
        · exact keep_upd hq
    · rintro Γ M2 ⟨rfl, x1, x2, x3, x4, x5, x6, x7, x8, x9, x10, x11, rfl⟩
      apply ss_ret
      · exact ev_bl
      · exact ⟨rfl, fun _ _ h => h⟩
end Pr

set_option Elab.async false
set_option linter.all false
set_option maxRecDepth 100000
set_option maxHeartbeats 0

namespace Pr
open PySem PySem.Spec PyProof.Rows L2 Sy
abbrev R : PySem.W.OpenRow := PySem.W.OpenLaw.row PySem.Challenge.rw_agreedapart_k46_whole_vouching
abbrev hk : PySem.W.Hook := He.hookX 4 fa fn [] [] ex
def ob (s : PySem.W.SharedT) : He.AlX := He.obsX 4 fa fn [] [] ex (HandSHeadRun.getT s)
theorem ob_eq (s : PySem.W.SharedT) : ob s = hk.obs s.abs := He.obsX_eq (HandSHeadRun.getT_eq s)
theorem run (w : World) : HandSHeadRun.RunEq R (PySem.W.view R.prog [55]) hk ob 20000 names w := by
  intro os
  kernel_rfl
end Pr

set_option Elab.async false
set_option linter.all false
set_option maxRecDepth 100000
set_option maxHeartbeats 0
namespace Pr
open PySem PySem.Spec PyProof.Rows L2 Sy
theorem ok_start (K : PySem.W.Frag) (H : Hp) : Ok K (frOf H noM H) H noM H :=
  ⟨Le.refl H, fun a o e => (frOf_some e).2.2, fun a ha => by
    cases e : frOf H noM H a with
    | none => exact absurd e ha
    | some o => exact (frOf_some e).1, fun a o e => nomatch e⟩
theorem law_sp {K : PySem.W.Frag} {H : Hp} {a : Addr} {ns : List Int} (hS : SqL K H a (ns.map V.int)) : spD K rl_law [.ref a] H (fun v _ => v = .bl true) fun _ _ _ => False :=
  ⟨H, [.ro (ns.map D.int)], noM, .bl true, noM, .cons (.ro hS (RepL.ints ns)) .nil, ok_start K H, ⟨ns, rfl, rfl, rfl⟩, fun v _ _ _ _ rv => rv.blE⟩
theorem facts {P : Program} {w : World} {K : PySem.W.Frag} {h : Heap} {mg : Str → Option Value} {f : Addr} (X : K.In h) (G : h.Ns mainGlobals mg) (hfa : mg ("law" : Str) = some (.ref f)) (c : He.SaysD fa fn K) (e : ex K = true) :
    ∃ fd : FuncData, (∀ (s : Shared) (v : Value), BindsTo s fd ⟨[v], []⟩ [("script", v)]) ∧ ∀ base : Heap, K.In base → base.Ns mainGlobals mg → FnOk P w K mg base CX0 8 f fd ["script"] (spD K rl_law) := by
  have T := tx_of X G c e
  have e1 := hfa.symm.trans T.g_law
  cases e1
  obtain ⟨fd, F⟩ := T.f_law
  have b := FunD.bindsA (ps := ["script"]) F fun _ _ _ _ _ _ us hl => match us, hl with | [_], _ => rfl
  exact ⟨fd, fun s v => b s [v] rfl, fun base _ _ => fo_law T F⟩
end Pr
open PySem PySem.W PySem.Calls PyProof.Rows
theorem PySem.Challenge.cw_agreedapart_k46_whole_vouching_holds : PySem.Challenge.rw_agreedapart_k46_whole_vouching.Holds := by
  w_on; o_law
  refine HandSHeadRun.head_any (r := OpenLaw.row PySem.Challenge.rw_agreedapart_k46_whole_vouching) (q := view (OpenLaw.row PySem.Challenge.rw_agreedapart_k46_whole_vouching).prog [55]) (H := Pr.hk) (ob := Pr.ob) (M := 20000) (loose := Pr.names) (d := HandSHeadRun.topDef (OpenLaw.row PySem.Challenge.rw_agreedapart_k46_whole_vouching).prog 55) (kwd := []) Pr.ob_eq
    (by kernel_rfl) (fun s => by kernel_rfl) Pr.run (by kernel_rfl) (by kernel_rfl) (by kernel_rfl) (by rfl) (by first | assumption | decide +kernel) (by decide +kernel) ⟨rfl, rfl, rfl, rfl, rfl, by decide +kernel⟩ ?hw ?hc
  case hw => w_witness2
  case hc =>
    refine L2.walk_ofE (l := PySem.Challenge.rw_agreedapart_k46_whole_vouching) (n := 63) (k := 8) (x := "script") (CX := L2.CX0) rfl (by decide) (by kernel_rfl) ⟨rfl, by decide, by decide⟩ ?F (fun _ _ _ _ z => z)
    intro w mg fa h Y G hmg0
    obtain ⟨K, KX, c⟩ := Y
    have hmg : mg ("law" : PySem.Str) = some (.ref fa) := by
      have e : (HandSHeadRun.topDef (OpenLaw.row PySem.Challenge.rw_agreedapart_k46_whole_vouching).prog 55).name = ("law" : PySem.Str) := by kernel_rfl
      rw [← e]
      exact hmg0
    obtain ⟨fd, hb, hF⟩ := Pr.facts (P := (PySem.Challenge.rw_agreedapart_k46_whole_vouching).prog) (w := w) KX G hmg c.t.d c.more
    exact ⟨K, fd, Sy.spD K Pr.rl_law, KX, hb, fun H a ns hl _ hS => Pr.law_sp hS, hF⟩
