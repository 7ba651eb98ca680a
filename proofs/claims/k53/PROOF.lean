import PyProof.Rows.All
import Wide.All
import OpenK.AllK
import Wide.FinOn
import HandS.ForMost
import HandS.IsInst
import HandS.Deep
import HandS.TupAny
import HandS.Walk
import HandS.Flow
import KE.DataEq
import HandS.NoneIn
import HandS.Conv
import HandS.Style
import KE.SortData
import KE.GoesEnum
import PyProof.EnumFor
import HandS.Gcd
import KE.KMathGC
import HandS.ForExc
import HandS.ExcIs
import HandS.Flt
import HandS.ForDict
import PySem.Challenge.RW_watchfloor_k53_calendars_ever_on_call_fi
set_option Elab.async false
set_option linter.all false
set_option maxRecDepth 100000
set_option maxHeartbeats 4000000
/-! Pl: a pure layer. Each reading t of the hand layer gets a plain function f over data; Sem c t f says: where f answers, t is shown. -/
namespace Pl
open PySem PySem.Spec PyProof.Rows L2

abbrev D := PyData
inductive R (α : Type) where
  | ok (a : α) | ex (c : Nat) (as : List D) | bad
def R.bind {α β : Type} (x : R α) (f : α → R β) : R β := match x with
  | .ok a => f a | .ex c as => .ex c as | .bad => .bad
instance : Monad R where
  pure := R.ok
  bind := R.bind
@[simp] theorem ok_bind {α β : Type} (a : α) (f : α → R β) : (R.ok a >>= f) = f a := rfl
@[simp] theorem ex_bind {α β : Type} (c : Nat) (as : List D) (f : α → R β) : (R.ex c as >>= f) = R.ex c as := rfl
@[simp] theorem bad_bind {α β : Type} (f : α → R β) : ((R.bad : R α) >>= f) = R.bad := rfl
@[simp] theorem pure_R {α : Type} (a : α) : (pure a : R α) = R.ok a := rfl
theorem bind_assoc' {α β γ : Type} (x : R α) (f : α → R β) (g : β → R γ) : ((x >>= f) >>= g) = (x >>= fun a => f a >>= g) := by cases x <;> rfl

inductive SV where
  | d (x : D) | ol (xs : List D) | od (kvs : List (Key × D)) | pin (xs : List D) | exn (n : Nat) (as : List D) | pd (kvs : List (Key × D))
def SV.own : SV → Bool
  | .d _ => false
  | .pin _ => false
  | .exn _ _ => false
  | .pd _ => false
  | _ => true
def SV.npin : SV → Bool
  | .pin _ => false
  | .exn _ _ => false
  | .pd _ => false
  | _ => true
abbrev En := List (Option SV)
inductive Fl where
  | nx (ρ : En) | rt (r : SV) | bk (ρ : En) | ct (ρ : En)

/-! ### heaps -/
structure Ext (Hf H Hf' H' : Hp) : Prop where
  f : Same Hf Hf'
  h : Same H H'
  i : Same Hf' H'
  n : ∀ p, Hf' p ≠ none → Hf p ≠ none ∨ H p = none
theorem Ext.refl {Hf H : Hp} (i : Same Hf H) : Ext Hf H Hf H := ⟨.refl _, .refl _, i, fun _ h => .inl h⟩
theorem Ext.trans {A B C D' E F : Hp} (x : Ext A B C D') (y : Ext C D' E F) : Ext A B E F :=
  ⟨x.f.trans y.f, x.h.trans y.h, y.i, fun p h => by
    rcases y.n p h with z | z
    · exact x.n p z
    · exact .inr (x.h.free z)⟩
theorem sqT_mono {K : PySem.W.Frag} {H H' : Hp} {a : Addr} {xs : List V} (e : Same H H') (h : SqT K H a xs) : SqT K H' a xs := by
  rcases h with (h | ⟨o, h⟩) | h
  · exact .inl (.inl (e _ _ h))
  · exact .inl (.inr ⟨o, e _ _ h⟩)
  · exact .inr h
mutual
theorem dp_mono {K : PySem.W.Frag} {H H' : Hp} (e : Same H H') : ∀ {d : D} {v : V}, Dp K H v d → Dp K H' v d
  | .none, _, h => by cases h; exact .non
  | .bool b, _, h => by cases h; exact .bl b
  | .int i, _, h => by cases h; exact .int i
  | .str x, _, h => by cases h; exact .str x
  | .list ds, _, h => by
    cases h with
    | lst h1 h2 => exact .lst (e.seq h1) (dpAll_mono e h2)
  | .tuple ds, _, h => by
    cases h with
    | tup h1 h2 => exact .tup (sqT_mono e h1) (dpAll_mono e h2)
  | .dict _, _, h => by cases h
theorem dpAll_mono {K : PySem.W.Frag} {H H' : Hp} (e : Same H H') : ∀ {ds : List D} {vs : List V}, DpAll K H vs ds → DpAll K H' vs ds
  | [], _, h => by cases h; exact .nil
  | d :: ds, _, h => by
    cases h with
    | cons h1 h2 => exact .cons (dp_mono e h1) (dpAll_mono e h2)
end
theorem dpAll_len {K : PySem.W.Frag} {H : Hp} : ∀ {vs : List V} {ds : List D}, DpAll K H vs ds → vs.length = ds.length
  | _, _, .nil => rfl
  | _, _, .cons _ t => by simp [dpAll_len t]
theorem dpAll_get {K : PySem.W.Frag} {H : Hp} : ∀ {vs : List V} {ds : List D} {i : Nat} {d : D}, DpAll K H vs ds → ds[i]? = some d → ∃ v, vs[i]? = some v ∧ Dp K H v d
  | _, _, _, _, .nil, e => by simp at e
  | _, _, 0, _, .cons r _, e => by simp at e; subst e; exact ⟨_, rfl, r⟩
  | _, _, i + 1, _, .cons _ t, e => by
    obtain ⟨v, h1, h2⟩ := dpAll_get (i := i) t (by simpa using e)
    exact ⟨v, by simpa using h1, h2⟩
theorem dpAll_getV {K : PySem.W.Frag} {H : Hp} : ∀ {vs : List V} {ds : List D} {i : Nat} {v : V}, DpAll K H vs ds → vs[i]? = some v → ∃ d, ds[i]? = some d ∧ Dp K H v d
  | _, _, _, _, .nil, e => by simp at e
  | _, _, 0, _, .cons r _, e => by simp at e; subst e; exact ⟨_, rfl, r⟩
  | _, _, i + 1, _, .cons _ t, e => by
    obtain ⟨v, h1, h2⟩ := dpAll_getV (i := i) t (by simpa using e)
    exact ⟨v, by simpa using h1, h2⟩
theorem dpAll_append {K : PySem.W.Frag} {H : Hp} : ∀ {vs ws : List V} {ds es : List D}, DpAll K H vs ds → DpAll K H ws es → DpAll K H (vs ++ ws) (ds ++ es)
  | _, _, _, _, .nil, s => s
  | _, _, _, _, .cons r t, s => .cons r (dpAll_append t s)
theorem dpAll_take {K : PySem.W.Frag} {H : Hp} : ∀ {vs : List V} {ds : List D} (n : Nat), DpAll K H vs ds → DpAll K H (vs.take n) (ds.take n)
  | _, _, 0, _ => .nil
  | _, _, _ + 1, .nil => .nil
  | _, _, n + 1, .cons r t => .cons r (dpAll_take n t)
theorem dpAll_drop {K : PySem.W.Frag} {H : Hp} : ∀ {vs : List V} {ds : List D} (n : Nat), DpAll K H vs ds → DpAll K H (vs.drop n) (ds.drop n)
  | _, _, 0, r => r
  | _, _, _ + 1, .nil => .nil
  | _, _, n + 1, .cons _ t => dpAll_drop n t
theorem dpAll_set {K : PySem.W.Frag} {H : Hp} {v : V} {d : D} (r : Dp K H v d) : ∀ {vs : List V} {ds : List D} (i : Nat), DpAll K H vs ds → DpAll K H (vs.set i v) (ds.set i d)
  | _, _, _, .nil => .nil
  | _, _, 0, .cons _ t => .cons r t
  | _, _, i + 1, .cons q t => .cons q (dpAll_set r i t)
theorem dpAll_ints {K : PySem.W.Frag} {H : Hp} : ∀ ns : List Int, DpAll K H (ns.map V.int) (ns.map PyData.int)
  | [] => .nil
  | n :: r => .cons (.int n) (dpAll_ints r)
theorem upd_grow {H : Hp} {p : Addr} {o : HO} (h : H p = none) : Same H (upd H p o) := fun b x e => by
  rw [upd_ne (ne_of_none e h)]
  exact e
theorem upd_both {Hf H : Hp} {p : Addr} {o : HO} (i : Same Hf H) : Same (upd Hf p o) (upd H p o) := fun b x e => by
  by_cases hb : b = p
  · subst hb; rw [upd_same] at e ⊢; exact e
  · rw [upd_ne hb] at e ⊢; exact i _ _ e

/-! ### what a value is worth -/
def DpKV (K : PySem.W.Frag) (Hf : Hp) : List (Key × V) → List (Key × D) → Prop := Paired fun a b => a.1 = b.1 ∧ Dp K Hf a.2 b.2
/-- the written part, and the exception that an except suite holds: where it lies, its own dict, its fields' names -/
structure Exi where
  n : Nat
  a : Addr
  d : Option (Addr × List Str)
structure Kx where
  k : PySem.W.Frag
  x : Exi
instance : Coe Kx PySem.W.Frag := ⟨Kx.k⟩
/-- what the held exception's fields are -/
def ExFs (K : Kx) (Hf H : Hp) (as : List D) : Prop := match K.x.d with
  | none => as = []
  | some (d, fs) => ∃ vs, H d = some (.xd (fs.zip vs)) ∧ fs.length = vs.length ∧ DpAll K.k Hf vs as
theorem ExFs.grow {K : Kx} {Hf H Hf' H' : Hp} {as : List D} (x : Ext Hf H Hf' H') (h : ExFs K Hf H as) : ExFs K Hf' H' as := by
  unfold ExFs at h ⊢
  split at h
  · exact h
  · obtain ⟨vs, h1, h2, h3⟩ := h
    exact ⟨vs, x.h _ _ h1, h2, dpAll_mono x.f h3⟩
/-- a list is written anew -/
theorem ExFs.upd {K : Kx} {Hf H : Hp} {as : List D} {p : Addr} {xs ys : List V} (hp : H p = some (.lst xs)) (h : ExFs K Hf H as) : ExFs K Hf (upd H p (.lst ys)) as := by
  unfold ExFs at h ⊢
  split at h
  · exact h
  · obtain ⟨vs, h1, h2, h3⟩ := h
    exact ⟨vs, by rw [upd_ne (fun z => by subst z; rw [hp] at h1; cases h1)]; exact h1, h2, h3⟩
theorem ExFs.thaw {K : Kx} {Hf Hf' H : Hp} {as : List D} (f : Same Hf Hf') (h : ExFs K Hf H as) : ExFs K Hf' H as := by
  unfold ExFs at h ⊢
  split at h
  · exact h
  · obtain ⟨vs, h1, h2, h3⟩ := h
    exact ⟨vs, h1, h2, dpAll_mono f h3⟩
def RepR (K : Kx) (Hf H : Hp) (v : V) : SV → Prop
  | .d x => Dp K Hf v x
  | .ol xs => ∃ p vs, v = .ref p ∧ H p = some (.lst vs) ∧ Hf p = none ∧ DpAll K Hf vs xs
  | .od kvs => ∃ p kws, v = .ref p ∧ H p = some (.dK kws) ∧ Hf p = none ∧ DpKV K Hf kws kvs
  | .pin xs => ∃ p vs, v = .ref p ∧ H p = some (.lst vs) ∧ Hf p = none ∧ DpAll K Hf vs xs
  | .exn n as => n = K.x.n ∧ v = .ref K.x.a ∧ ExFs K Hf H as
  | .pd kvs => ∃ p kws o, v = .ref p ∧ Hf p = some (.frz o (.dK kws)) ∧ DpKV K Hf kws kvs
theorem Ext.still {Hf H Hf' H' : Hp} {p : Addr} {o : HO} (x : Ext Hf H Hf' H') (h1 : H p = some o) (h2 : Hf p = none) : Hf' p = none := by
  cases q : Hf' p with
  | none => rfl
  | some o' =>
    rcases x.n p (by rw [q]; exact fun z => nomatch z) with z | z
    · exact absurd h2 z
    · rw [h1] at z; cases z
theorem RepR.grow {K : Kx} {Hf H Hf' H' : Hp} {v : V} (x : Ext Hf H Hf' H') : ∀ {r : SV}, RepR K Hf H v r → RepR K Hf' H' v r
  | .d _, h => dp_mono x.f h
  | .ol _, ⟨p, vs, e, h1, h2, h3⟩ => ⟨p, vs, e, x.h _ _ h1, x.still h1 h2, dpAll_mono x.f h3⟩
  | .od _, ⟨p, vs, e, h1, h2, h3⟩ => ⟨p, vs, e, x.h _ _ h1, x.still h1 h2, Paired.mapP h3 fun _ _ q => ⟨q.1, dp_mono x.f q.2⟩⟩
  | .pin _, ⟨p, vs, e, h1, h2, h3⟩ => ⟨p, vs, e, x.h _ _ h1, x.still h1 h2, dpAll_mono x.f h3⟩
  | .exn _ _, ⟨n, e, h⟩ => ⟨n, e, h.grow x⟩
  | .pd _, ⟨p, vs, o, e, h1, h3⟩ => ⟨p, vs, o, e, x.f _ _ h1, Paired.mapP h3 fun _ _ q => ⟨q.1, dp_mono x.f q.2⟩⟩

/-- where a frame began: the shared heap, and where its pinned lists lie -/
structure Bs where
  h : Hp
  fx : Nat → V
instance : Coe Bs Hp := ⟨Bs.h⟩
structure EnvOk (K : Kx) (B : Bs) (H0 Hf H : Hp) (σ : L2.St) (ρ : En) : Prop where
  ext : Ext B.h H0 Hf H
  len : σ.length = ρ.length
  sl : ∀ (i : Nat) (r : SV), ρ[i]? = some (some r) → ∃ v, σ[i]? = some (some v) ∧ RepR K Hf H v r
  new : ∀ (i : Nat) (r : SV) (p : Addr), ρ[i]? = some (some r) → r.own = true → σ[i]? = some (some (.ref p)) → H0 p = none
  sep : ∀ (i j : Nat) (ri rj : SV) (p : Addr), ρ[i]? = some (some ri) → ri.own = true → ρ[j]? = some (some rj) → rj.own = true → σ[i]? = some (some (.ref p)) → σ[j]? = some (some (.ref p)) → i = j
  pin : ∀ (i : Nat) (xs : List D), ρ[i]? = some (some (.pin xs)) → ∃ p o, B.fx i = .ref p ∧ σ[i]? = some (some (.ref p)) ∧ H0 p = some o ∧ B.h p = none
theorem EnvOk.i {K : Kx} {B : Bs} {H0 Hf H : Hp} {σ : L2.St} {ρ : En} (I : EnvOk K B H0 Hf H σ ρ) : Same Hf H := I.ext.i
theorem EnvOk.grow {K : Kx} {B : Bs} {H0 Hf H Hf' H' : Hp} {σ : L2.St} {ρ : En} (I : EnvOk K B H0 Hf H σ ρ) (x : Ext Hf H Hf' H') : EnvOk K B H0 Hf' H' σ ρ :=
  ⟨I.ext.trans x, I.len, fun i r e => let ⟨v, h1, h2⟩ := I.sl i r e; ⟨v, h1, h2.grow x⟩, I.new, I.sep, I.pin⟩

/-! ### outcomes -/
structure Ct where
  K : Kx
  cm : Nat → Addr × List Str
  E : XK
def ExRep (c : Ct) (Hf H : Hp) (n : Nat) (od : Option Addr) (as : List D) : Prop :=
  match od with
  | none => as = [] ∧ (c.cm n).2 = []
  | some d => (c.cm n).2 ≠ [] ∧ ∃ vs, H d = some (.xd ((c.cm n).2.zip vs)) ∧ (c.cm n).2.length = vs.length ∧ DpAll c.K Hf vs as
def ExW (c : Ct) (Hf H : Hp) (n : Nat) (as : List D) : Prop := ∀ Hf' H' od, Ext Hf H Hf' H' → ExRep c Hf' H' n od as → c.E (.ref (c.cm n).1) od H'
theorem ExW.grow {c : Ct} {Hf H Hf' H' : Hp} {n : Nat} {as : List D} (h : ExW c Hf H n as) (x : Ext Hf H Hf' H') : ExW c Hf' H' n as := fun _ _ od y r => h _ _ od (x.trans y) r
/-- an answer of any kind: ok a is told by G -/
def Out {α : Type} (c : Ct) (Hf H : Hp) (x : R α) (G : α → Prop) : Prop := match x with
  | .ok a => G a
  | .ex n as => ExW c Hf H n as
  | .bad => False
def GE (c : Ct) (b : Bool) (Hf H : Hp) (Q : VK) (r : SV) : Prop := ∀ v Hf' H', Ext Hf H Hf' H' → RepR c.K Hf' H' v r → (b = true → r.own = true → ∀ p, v = .ref p → H p = none) → Q v H'
def GT (Hf H : Hp) (Q : Bool → Hp → Prop) (b : Bool) : Prop := ∀ Hf' H', Ext Hf H Hf' H' → Q b H'
def GA (c : Ct) (Hf H : Hp) (Q : List V → Hp → Prop) (ds : List D) : Prop := ∀ vs Hf' H', Ext Hf H Hf' H' → DpAll c.K Hf' vs ds → Q vs H'
theorem GE.grow {c : Ct} {b : Bool} {Hf H Hf' H' : Hp} {Q : VK} {r : SV} (h : GE c b Hf H Q r) (x : Ext Hf H Hf' H') : GE c b Hf' H' Q r :=
  fun v _ _ y q f => h v _ _ (x.trans y) q fun hb ho p e => x.h.free (f hb ho p e)
theorem GT.grow {Hf H Hf' H' : Hp} {Q : Bool → Hp → Prop} {b : Bool} (h : GT Hf H Q b) (x : Ext Hf H Hf' H') : GT Hf' H' Q b := fun _ _ y => h _ _ (x.trans y)
theorem GA.grow {c : Ct} {Hf H Hf' H' : Hp} {Q : List V → Hp → Prop} {ds : List D} (h : GA c Hf H Q ds) (x : Ext Hf H Hf' H') : GA c Hf' H' Q ds := fun vs _ _ y q => h vs _ _ (x.trans y) q
theorem Out.mono {α : Type} {c : Ct} {Hf H : Hp} {x : R α} {G G' : α → Prop} (h : Out c Hf H x G) (k : ∀ a, x = .ok a → G a → G' a) : Out c Hf H x G' := by
  cases x with
  | ok a => exact k a rfl h
  | ex n as => exact h
  | bad => exact h
theorem Out.grow {α : Type} {c : Ct} {Hf H Hf' H' : Hp} {x : R α} {G G' : α → Prop} (h : Out c Hf H x G) (e : Ext Hf H Hf' H') (k : ∀ a, G a → G' a) : Out c Hf' H' x G' := by
  cases x with
  | ok a => exact k a h
  | ex n as => exact ExW.grow h e
  | bad => exact h
/-- two steps: the first one's answer is handed on -/
theorem Out.bind {α β : Type} {c : Ct} {Hf H : Hp} {x : R α} {k : α → R β} {G : β → Prop} {G1 : α → Prop} (h : Out c Hf H (x >>= k) G) (hk : ∀ a, x = .ok a → Out c Hf H (k a) G → G1 a) : Out c Hf H x G1 := by
  cases x with
  | ok a => exact hk a rfl h
  | ex n as => exact h
  | bad => exact h

/-! ### the meaning of readings -/
def SemE (c : Ct) (b : Bool) (t : TE) (f : En → R SV) : Prop := ∀ B H0 Hf H σ ρ Q, EnvOk c.K B H0 Hf H σ ρ → Out c Hf H (f ρ) (GE c b Hf H Q) → t σ H Q
def SemT (c : Ct) (t : TT) (f : En → R Bool) : Prop := ∀ B H0 Hf H σ ρ Q, EnvOk c.K B H0 Hf H σ ρ → Out c Hf H (f ρ) (GT Hf H Q) → t σ H Q
def SemA (c : Ct) (t : TA) (f : En → R (List D)) : Prop := ∀ B H0 Hf H σ ρ Q, EnvOk c.K B H0 Hf H σ ρ → Out c Hf H (f ρ) (GA c Hf H Q) → t σ H Q
/-- arguments that are only looked at -/
inductive RepRs (K : Kx) (Hf H : Hp) : List V → List SV → Prop
  | nil : RepRs K Hf H [] []
  | cons {v : V} {vs : List V} {r : SV} {rs : List SV} : RepR K Hf H v r → RepRs K Hf H vs rs → RepRs K Hf H (v :: vs) (r :: rs)
theorem RepRs.grow {K : Kx} {Hf H Hf' H' : Hp} (x : Ext Hf H Hf' H') : ∀ {vs : List V} {rs : List SV}, RepRs K Hf H vs rs → RepRs K Hf' H' vs rs
  | _, _, .nil => .nil
  | _, _, .cons a b => .cons (a.grow x) (RepRs.grow x b)
def GB (c : Ct) (Hf H : Hp) (Q : List V → Hp → Prop) (rs : List SV) : Prop := ∀ vs Hf' H', Ext Hf H Hf' H' → RepRs c.K Hf' H' vs rs → Q vs H'
def SemB (c : Ct) (t : TA) (f : En → R (List SV)) : Prop := ∀ B H0 Hf H σ ρ Q, EnvOk c.K B H0 Hf H σ ρ → Out c Hf H (f ρ) (GB c Hf H Q) → t σ H Q

def GS (c : Ct) (B : Bs) (H0 : Hp) (Dn : Ends) : Fl → Prop
  | .nx ρ => ∀ Hf H σ, EnvOk c.K B H0 Hf H σ ρ → Dn.nx σ H
  | .bk ρ => ∀ Hf H σ, EnvOk c.K B H0 Hf H σ ρ → Dn.bk σ H
  | .ct ρ => ∀ Hf H σ, EnvOk c.K B H0 Hf H σ ρ → Dn.ct σ H
  | .rt r => ∀ v Hf H, Ext B.h H0 Hf H → RepR c.K Hf H v r → (r.own = true → ∀ p, v = .ref p → H0 p = none) → Dn.rt v H
def SemS (c : Ct) (t : TS) (f : En → R Fl) : Prop := ∀ B H0 Hf H σ ρ Dn, EnvOk c.K B H0 Hf H σ ρ → Out c B H0 (f ρ) (GS c B H0 Dn) → t Dn σ H
/-- a statement's outcome is told from the entry on; an expression's from here -/
theorem Out.here {α : Type} {c : Ct} {B H0 Hf H : Hp} {x : R α} {G : α → Prop} (h : Out c B H0 x G) (e : Ext B H0 Hf H) : Out c Hf H x G := h.grow e fun _ g => g

/-! ### names, constants -/
def datS : SV → R D
  | .d x => .ok x
  | .ol xs => .ok (.list xs)
  | .od _ => .bad
  | .pin _ => .bad
  | .exn _ _ => .bad
  | .pd _ => .bad
/-- a slot's value, to be handed on -/
def getV (i : Nat) (ρ : En) : R SV := match ρ[i]? with
  | some (some (.d x)) => .ok (.d x)
  | _ => .bad
/-- .. to be looked at -/
def peek (i : Nat) (ρ : En) : R SV := match ρ[i]? with
  | some (some r) => .ok r
  | _ => .bad
theorem sem_var {c : Ct} {i : Nat} : SemE c true (tVar i) (getV i) := by
  intro B H0 Hf H σ ρ Q I h
  unfold getV at h
  split at h
  · rename_i x e
    obtain ⟨v, h1, h2⟩ := I.sl i _ e
    exact ⟨v, h1, h v Hf H (.refl I.i) h2 fun _ z => nomatch z⟩
  · exact h.elim
theorem sem_peek {c : Ct} {i : Nat} : SemE c false (tVar i) (peek i) := by
  intro B H0 Hf H σ ρ Q I h
  unfold peek at h
  split at h
  · rename_i x e
    obtain ⟨v, h1, h2⟩ := I.sl i _ e
    exact ⟨v, h1, h v Hf H (.refl I.i) h2 fun z => nomatch z⟩
  · exact h.elim
theorem SemE.look {c : Ct} {t : TE} {f : En → R SV} (h : SemE c true t f) : SemE c false t f := fun B H0 Hf H σ ρ Q I o =>
  h B H0 Hf H σ ρ Q I (o.mono fun _ _ g v Hf' H' x q _ => g v Hf' H' x q fun z => nomatch z)
theorem sem_con {c : Ct} {b : Bool} {v : V} {d : D} (h : ∀ Hf, Dp c.K Hf v d) : SemE c b (tC v) fun _ => .ok (.d d) := fun B H0 Hf H σ ρ Q I o => o v Hf H (.refl I.i) (h Hf) fun _ z => nomatch z
theorem sem_int {c : Ct} {b : Bool} {i : Int} : SemE c b (tC (.int i)) fun _ => .ok (.d (.int i)) := sem_con fun _ => .int i
theorem sem_bl {c : Ct} {b : Bool} {i : Bool} : SemE c b (tC (.bl i)) fun _ => .ok (.d (.bool i)) := sem_con fun _ => .bl i
theorem sem_str {c : Ct} {b : Bool} {i : Str} : SemE c b (tC (.str i)) fun _ => .ok (.d (.str i)) := sem_con fun _ => .str i
theorem sem_non {c : Ct} {b : Bool} : SemE c b (tC .non) fun _ => .ok (.d .none) := sem_con fun _ => .non
/-- freezing a fresh answer -/
theorem froze {c : Ct} {Hf H Hf' H' : Hp} {v : V} {r : SV} {d : D} (x : Ext Hf H Hf' H') (q : RepR c.K Hf' H' v r) (fr : r.own = true → ∀ p, v = .ref p → H p = none) (e : datS r = .ok d) :
    ∃ Hf2, Ext Hf H Hf2 H' ∧ Dp c.K Hf2 v d := by
  cases r with
  | d y => cases e; exact ⟨Hf', x, q⟩
  | ol xs =>
    cases e
    obtain ⟨p, vs, rfl, h1, h2, h3⟩ := q
    have g := upd_grow (o := .lst vs) h2
    refine ⟨upd Hf' p (.lst vs), ⟨x.f.trans g, x.h, fun b o e => ?_, fun b e => ?_⟩, .lst (.inl (.inl upd_same)) (dpAll_mono g h3)⟩
    · by_cases hb : b = p
      · subst hb; rw [upd_same] at e; cases e; exact h1
      · rw [upd_ne hb] at e; exact x.i _ _ e
    · by_cases hb : b = p
      · subst hb; exact .inr (fr rfl _ rfl)
      · rw [upd_ne hb] at e; exact x.n b e
  | od kvs => cases e
  | pin kvs => cases e
  | exn n as => cases e
  | pd kvs => cases e
/-- what is looked at stands in the heap -/
theorem looked {c : Ct} {Hf H : Hp} {v : V} {r : SV} {d : D} (i : Same Hf H) (q : RepR c.K Hf H v r) (e : datS r = .ok d) : Dp c.K H v d := by
  cases r with
  | d y => cases e; exact dp_mono i q
  | ol xs =>
    cases e
    obtain ⟨p, vs, rfl, h1, h2, h3⟩ := q
    exact .lst (.inl (.inl h1)) (dpAll_mono i h3)
  | od kvs => cases e
  | pin kvs => cases e
  | exn n as => cases e
  | pd kvs => cases e

/-! ### combinators (plain functions of the slots) -/
def bin (g : SV → SV → R SV) (fa fb : En → R SV) : En → R SV := fun ρ => fa ρ >>= fun a => fb ρ >>= fun b => g a b
def una (g : SV → R SV) (fa : En → R SV) : En → R SV := fun ρ => fa ρ >>= g
def kon (d : D) : En → R SV := fun _ => .ok (.d d)
/-! ### operators of two -/
def R2ok (c : Ct) (r : R2) (g : SV → SV → R SV) : Prop := ∀ Hf H x y rx ry Q, Same Hf H → RepR c.K Hf H x rx → RepR c.K Hf H y ry → Out c Hf H (g rx ry) (GE c true Hf H Q) → r x y H Q
theorem R2ok.or {c : Ct} {r r' : R2} {g g' : SV → SV → R SV} (h : R2ok c r g) (h' : R2ok c r' g') : R2ok c (fun x y H Q => r x y H Q ∨ r' x y H Q) (fun a b => match g a b with | .bad => g' a b | z => z) := by
  intro Hf H x y rx ry Q i hx hy o
  cases e : g rx ry with
  | bad => simp only [e] at o; exact .inr (h' Hf H x y rx ry Q i hx hy o)
  | ok a => simp only [e] at o; exact .inl (h Hf H x y rx ry Q i hx hy (by rw [e]; exact o))
  | ex n as => simp only [e] at o; exact .inl (h Hf H x y rx ry Q i hx hy (by rw [e]; exact o))
theorem OpR.or {X : Cx} {f : Value → Value → Sem Value} {r r' : R2} (h : OpR X f r) (h' : OpR X f r') : OpR X f (fun x y H Q => r x y H Q ∨ r' x y H Q) := fun pins s σ H x y v u Q I rx ry q => q.elim (fun z => h pins s σ H x y v u Q I rx ry z) fun z => h' pins s σ H x y v u Q I rx ry z
theorem sem_bin {c : Ct} {r : R2} {g : SV → SV → R SV} {ta tb : TE} {fa fb : En → R SV} (hr : R2ok c r g) (ha : SemE c false ta fa) (hb : SemE c false tb fb) :
    SemE c true (tOp r ta tb) (bin g fa fb) := by
  intro B H0 Hf H σ ρ Q I o
  refine ha B H0 Hf H σ ρ _ I (Out.bind o fun a ea o1 => fun v Hf1 H1 x1 q1 _ => ?_)
  refine hb B H0 Hf1 H1 σ ρ _ (I.grow x1) (Out.bind (o1.grow x1 fun _ z => z) fun b eb o2 => fun u Hf2 H2 x2 q2 _ => ?_)
  exact hr Hf2 H2 v u a b Q x2.i (q1.grow x2) q2 (o2.grow x2 fun _ g => (g.grow x1).grow x2)
def int1 : SV → R Int
  | .d (.int i) => .ok i
  | _ => .bad
theorem int1_ok {K : Kx} {Hf H : Hp} {v : V} {r : SV} {i : Int} (q : RepR K Hf H v r) (e : int1 r = .ok i) : v = .int i := by
  unfold int1 at e
  split at e
  · cases e; cases q; rfl
  · cases e
theorem GE.now {c : Ct} {b : Bool} {Hf H : Hp} {Q : VK} {v : V} {d : D} (h : GE c b Hf H Q (.d d)) (i : Same Hf H) (q : Dp c.K Hf v d) : Q v H := h v Hf H (.refl i) q fun _ z => nomatch z
end Pl
namespace Pl
open PySem PySem.Spec PyProof.Rows L2

theorem Ext.laid {Hf H : Hp} {p : Addr} {o : HO} (i : Same Hf H) (h : H p = none) : Ext Hf H (upd Hf p o) (upd H p o) :=
  ⟨upd_grow (i.free h), upd_grow h, upd_both i, fun b e => by
    by_cases hb : b = p
    · subst hb; exact .inr h
    · rw [upd_ne hb] at e; exact .inl e⟩
theorem Ext.fresh {Hf H : Hp} {p : Addr} {o : HO} (i : Same Hf H) (h : H p = none) : Ext Hf H Hf (upd H p o) :=
  ⟨.refl _, upd_grow h, i.trans (upd_grow h), fun b e => .inl e⟩
/-- a new list is handed on -/
theorem GE.newL {c : Ct} {b : Bool} {Hf H : Hp} {Q : VK} {xs : List D} {vs : List V} {p : Addr} (h : GE c b Hf H Q (.ol xs)) (i : Same Hf H) (hp : H p = none) (q : DpAll c.K Hf vs xs) : Q (.ref p) (upd H p (.lst vs)) :=
  h _ Hf _ (.fresh i hp) ⟨p, vs, rfl, upd_same, i.free hp, q⟩ fun _ _ p' e => by cases e; exact hp
theorem GE.newT {c : Ct} {b : Bool} {Hf H : Hp} {Q : VK} {xs : List D} {vs : List V} {p : Addr} (h : GE c b Hf H Q (.d (.tuple xs))) (i : Same Hf H) (hp : H p = none) (q : DpAll c.K Hf vs xs) : Q (.ref p) (upd H p (.tup vs)) :=
  h _ _ _ (.laid i hp) (.tup (.inl (.inl upd_same)) (dpAll_mono (upd_grow (i.free hp)) q)) fun _ z => nomatch z
/-! ### arithmetic -/
def subS : SV → SV → R SV
  | .d (.int a), .d (.int b) => .ok (.d (.int (a - b)))
  | _, _ => .bad
def okM (j : Int) : Bool := Nat.blt j.natAbs 18446744073709551616
theorem okM_of {j : Int} (h0 : -1000000000000 ≤ j) (h1 : j ≤ 1000000000000) : okM j = true := by
  unfold okM Nat.blt
  rw [Nat.ble_eq]; omega
theorem okM_ok {j : Int} (h : okM j = true) : -(2 ^ 64) < j ∧ j < 2 ^ 64 := by
  unfold okM Nat.blt at h
  rw [Nat.ble_eq] at h
  omega
def mulS : SV → SV → R SV
  | .d (.int a), .d (.int b) => if (okM a || okM b) = true then .ok (.d (.int (a * b))) else .bad
  | _, _ => .bad
def modS : SV → SV → R SV
  | .d (.int a), .d (.int b) => if 0 < b then .ok (.d (.int (a % b))) else .bad
  | _, _ => .bad
def fdivS : SV → SV → R SV
  | .d (.int a), .d (.int b) => if 0 < b ∧ b < 1073741824 then .ok (.d (.int (a / b))) else .bad
  | _, _ => .bad
def powS : SV → SV → R SV
  | .d (.int a), .d (.int b) => if 0 ≤ b ∧ b ≤ 1000000 ∧ a.natAbs < 2 ^ 64 then .ok (.d (.int (a ^ b.toNat))) else .bad
  | _, _ => .bad
def ltS : SV → SV → R SV
  | .d (.int a), .d (.int b) => .ok (.d (.bool (decide (a < b))))
  | .d (.str a), .d (.str b) => .ok (.d (.bool (decide (a.cps.toList < b.cps.toList))))
  | _, _ => .bad
def leS : SV → SV → R SV
  | .d (.int a), .d (.int b) => .ok (.d (.bool (decide (a ≤ b))))
  | .d (.str a), .d (.str b) => .ok (.d (.bool (!decide (b.cps.toList < a.cps.toList))))
  | _, _ => .bad
def gtS : SV → SV → R SV
  | .d (.int a), .d (.int b) => .ok (.d (.bool (decide (b < a))))
  | .d (.str a), .d (.str b) => .ok (.d (.bool (decide (b.cps.toList < a.cps.toList))))
  | _, _ => .bad
def geS : SV → SV → R SV
  | .d (.int a), .d (.int b) => .ok (.d (.bool (decide (b ≤ a))))
  | .d (.str a), .d (.str b) => .ok (.d (.bool (!decide (a.cps.toList < b.cps.toList))))
  | _, _ => .bad
def negS : SV → R SV
  | .d (.int a) => .ok (.d (.int (-a)))
  | _ => .bad
section
variable {c : Ct}
theorem r2_sub : R2ok c (rI0 fun i j => .int (i - j)) subS := by
  intro Hf H x y rx ry Q i hx hy o
  unfold subS at o
  split at o
  · cases hx; cases hy; exact ⟨_, _, rfl, rfl, GE.now o i (.int _)⟩
  · exact o.elim
theorem r2_mul : R2ok c (rI CMul fun i j => .int (i * j)) mulS := by
  intro Hf H x y rx ry Q i hx hy o
  unfold mulS at o
  split at o
  · cases hx; cases hy
    split at o
    · rename_i h
      rcases Bool.or_eq_true_iff.mp h with h | h
      · exact ⟨_, _, rfl, rfl, .inl (okM_ok h), GE.now o i (.int _)⟩
      · exact ⟨_, _, rfl, rfl, .inr (okM_ok h), GE.now o i (.int _)⟩
    · exact o.elim
  · exact o.elim
theorem r2_mod : R2ok c (rI (fun _ j => 0 < j) fun i j => .int (i % j)) modS := by
  intro Hf H x y rx ry Q i hx hy o
  unfold modS at o
  split at o
  · cases hx; cases hy
    split at o
    · rename_i h; exact ⟨_, _, rfl, rfl, h, GE.now o i (.int _)⟩
    · exact o.elim
  · exact o.elim
theorem r2_fdiv : R2ok c (rI CDiv fun i j => .int (i / j)) fdivS := by
  intro Hf H x y rx ry Q i hx hy o
  unfold fdivS at o
  split at o
  · cases hx; cases hy
    split at o
    · rename_i h; exact ⟨_, _, rfl, rfl, h, GE.now o i (.int _)⟩
    · exact o.elim
  · exact o.elim
theorem r2_pow : R2ok c (rI CPow fun i j => .int (i ^ j.toNat)) powS := by
  intro Hf H x y rx ry Q i hx hy o
  unfold powS at o
  split at o
  · cases hx; cases hy
    split at o
    · rename_i h; exact ⟨_, _, rfl, rfl, h, GE.now o i (.int _)⟩
    · exact o.elim
  · exact o.elim
abbrev rLt : R2 := fun x y H Q => rI0 (fun i j => .bl (decide (i < j))) x y H Q ∨ ∃ i j, x = .str i ∧ y = .str j ∧ Q (.bl (decide (i.cps.toList < j.cps.toList))) H
abbrev rLe : R2 := fun x y H Q => rI0 (fun i j => .bl (decide (i ≤ j))) x y H Q ∨ ∃ i j, x = .str i ∧ y = .str j ∧ Q (.bl (!decide (j.cps.toList < i.cps.toList))) H
abbrev rGt : R2 := fun x y H Q => rI0 (fun i j => .bl (decide (j < i))) x y H Q ∨ ∃ i j, x = .str i ∧ y = .str j ∧ Q (.bl (decide (j.cps.toList < i.cps.toList))) H
abbrev rGe : R2 := fun x y H Q => rI0 (fun i j => .bl (decide (j ≤ i))) x y H Q ∨ ∃ i j, x = .str i ∧ y = .str j ∧ Q (.bl (!decide (i.cps.toList < j.cps.toList))) H
theorem o_lt {X : Cx} : OpR X (compareOp .Lt) rLt := Pl.OpR.or op_lt op_lt_str
theorem o_le {X : Cx} : OpR X (compareOp .LtE) rLe := Pl.OpR.or op_le op_le_str
theorem o_gt {X : Cx} : OpR X (compareOp .Gt) rGt := Pl.OpR.or op_gt op_gt_str
theorem o_ge {X : Cx} : OpR X (compareOp .GtE) rGe := Pl.OpR.or op_ge op_ge_str
theorem r2_lt : R2ok c rLt ltS := by
  intro Hf H x y rx ry Q i hx hy o
  unfold ltS at o
  split at o
  · cases hx; cases hy; exact .inl ⟨_, _, rfl, rfl, GE.now o i (.bl _)⟩
  · cases hx; cases hy; exact .inr ⟨_, _, rfl, rfl, GE.now o i (.bl _)⟩
  · exact o.elim
theorem r2_le : R2ok c rLe leS := by
  intro Hf H x y rx ry Q i hx hy o
  unfold leS at o
  split at o
  · cases hx; cases hy; exact .inl ⟨_, _, rfl, rfl, GE.now o i (.bl _)⟩
  · cases hx; cases hy; exact .inr ⟨_, _, rfl, rfl, GE.now o i (.bl _)⟩
  · exact o.elim
theorem r2_gt : R2ok c rGt gtS := by
  intro Hf H x y rx ry Q i hx hy o
  unfold gtS at o
  split at o
  · cases hx; cases hy; exact .inl ⟨_, _, rfl, rfl, GE.now o i (.bl _)⟩
  · cases hx; cases hy; exact .inr ⟨_, _, rfl, rfl, GE.now o i (.bl _)⟩
  · exact o.elim
theorem r2_ge : R2ok c rGe geS := by
  intro Hf H x y rx ry Q i hx hy o
  unfold geS at o
  split at o
  · cases hx; cases hy; exact .inl ⟨_, _, rfl, rfl, GE.now o i (.bl _)⟩
  · cases hx; cases hy; exact .inr ⟨_, _, rfl, rfl, GE.now o i (.bl _)⟩
  · exact o.elim
theorem sem_neg {ta : TE} {fa : En → R SV} (ha : SemE c false ta fa) : SemE c true (tUn (rU fun i => .int (-i)) ta) (una negS fa) := by
  intro B H0 Hf H σ ρ Q I o
  refine ha B H0 Hf H σ ρ _ I (Out.bind o fun a ea o1 => fun v Hf1 H1 x1 q1 _ => ?_)
  unfold negS at o1
  split at o1
  · cases q1; exact ⟨_, rfl, GE.now (GE.grow (show GE c true Hf H Q _ from o1) x1) x1.i (.int _)⟩
  · exact o1.elim
end

/-! ### + -/
/-- two lists, whatever they are -/
def rCatL (K : PySem.W.Frag) : R2 := fun x y H Q => ∃ l b xs zs, x = .ref l ∧ y = .ref b ∧ SqL K H l xs ∧ SqL K H b zs ∧ xs.length + zs.length ≤ sizeLine ∧ ∀ p, H p = none → Q (.ref p) (upd H p (.lst (xs ++ zs)))
def addS : SV → SV → R SV
  | .d (.int a), .d (.int b) => .ok (.d (.int (a + b)))
  | .d (.str a), .d (.str b) => if a.length + b.length ≤ sizeLine then .ok (.d (.str (a ++ b))) else .bad
  | .d (.tuple a), .d (.tuple b) => if a.length + b.length ≤ sizeLine then .ok (.d (.tuple (a ++ b))) else .bad
  | .d (.list a), .d (.list b) => if a.length + b.length ≤ sizeLine then .ok (.ol (a ++ b)) else .bad
  | .d (.list a), .ol b => if a.length + b.length ≤ sizeLine then .ok (.ol (a ++ b)) else .bad
  | .ol a, .d (.list b) => if a.length + b.length ≤ sizeLine then .ok (.ol (a ++ b)) else .bad
  | .ol a, .ol b => if a.length + b.length ≤ sizeLine then .ok (.ol (a ++ b)) else .bad
  | _, _ => .bad
theorem op_catL {X : Cx} : OpR X (binaryOp .Add) (rCatL X.K) := by
  intro pins s σ H x y v u Q I rx ry h
  obtain ⟨l, b, xs, zs, rfl, rfl, hH, hB, hz, q⟩ := h
  cases rx
  cases ry
  obtain ⟨its, r, p1, z⟩ := I.list hH
  obtain ⟨its2, r2, p2, z2⟩ := I.list hB
  obtain ⟨o, n, e, hc, hd, hdat⟩ := p1
  obtain ⟨o2, n2, e2, hc2, hd2, hdat2⟩ := p2
  have hl := r.length
  have hl2 := r2.length
  obtain ⟨oc, od, odt, osl⟩ := o
  obtain ⟨oc2, od2, odt2, osl2⟩ := o2
  simp only at hc hd hdat hc2 hd2 hdat2
  subst hc hd hdat hc2 hd2 hdat2
  have hz' : its.toArray.size + its2.toArray.size ≤ sizeLine := by rw [List.size_toArray, List.size_toArray]; omega
  have ea : its.toArray ++ its2.toArray = (its ++ its2).toArray := by simp
  refine concat_meets ⟨_, e, rfl⟩ ⟨_, e2, rfl⟩ noFill_list_add seq_list_add F.slot_list_add F.entry_list_add (F.args_list_add_2 _ _) (PyProof.Rows.list_addW l b its.toArray its2.toArray n n2 none none osl osl2 hz') ⟨e, e2, ?_⟩
  rw [ea]
  exact ⟨.ref _, _, I.lnew (t' := s.toks) (r.append r2) (by rw [List.length_append]; omega), rfl, q _ I.fresh⟩
/-- a list that is looked at -/
theorem rep_list {K : Kx} {Hf H : Hp} {v : V} {r : SV} {xs : List D} (i : Same Hf H) (q : RepR K Hf H v r) (e : r = .d (.list xs) ∨ r = .ol xs) : ∃ p vs, v = .ref p ∧ SqL K H p vs ∧ DpAll K Hf vs xs := by
  rcases e with rfl | rfl
  · cases q with
    | lst h1 h2 => exact ⟨_, _, rfl, i.seq h1, h2⟩
  · obtain ⟨p, vs, e, h1, h2, h3⟩ := q
    exact ⟨p, vs, e, .inl (.inl h1), h3⟩
theorem rep_tup {K : Kx} {Hf H : Hp} {v : V} {xs : List D} (i : Same Hf H) (q : RepR K Hf H v (.d (.tuple xs))) : ∃ p vs, v = .ref p ∧ SqT K H p vs ∧ SqT K Hf p vs ∧ DpAll K Hf vs xs := by
  cases q with
  | tup h1 h2 => exact ⟨_, _, rfl, sqT_mono i h1, h1, h2⟩
abbrev rAddA (K : PySem.W.Frag) : R2 := fun x y H Q => rI0 (fun i j => .int (i + j)) x y H Q ∨ ((∃ i j, x = .str i ∧ y = .str j ∧ i.length + j.length ≤ sizeLine ∧ Q (.str (i ++ j)) H) ∨ (rCatA K x y H Q ∨ rCatL K x y H Q))
theorem o_add {X : Cx} : OpR X (binaryOp .Add) (rAddA X.K) := Pl.OpR.or op_add (Pl.OpR.or op_add_str (Pl.OpR.or op_catA op_catL))
theorem r2_add {c : Ct} : R2ok c (rAddA c.K) addS := by
  intro Hf H x y rx ry Q i hx hy o
  have lists : ∀ a b, (rx = .d (.list a) ∨ rx = .ol a) → (ry = .d (.list b) ∨ ry = .ol b) → Out c Hf H (if a.length + b.length ≤ sizeLine then R.ok (SV.ol (a ++ b)) else R.bad) (GE c true Hf H Q) → rAddA c.K x y H Q := by
    intro a b e1 e2 o
    split at o
    · rename_i hz
      obtain ⟨p, vs, rfl, h1, h2⟩ := rep_list i hx e1
      obtain ⟨p2, vs2, rfl, h3, h4⟩ := rep_list i hy e2
      refine .inr (.inr (.inr ⟨_, _, _, _, rfl, rfl, h1, h3, ?_, fun p hp => GE.newL o i hp (dpAll_append h2 h4)⟩))
      rw [dpAll_len h2, dpAll_len h4]; exact hz
    · exact o.elim
  unfold addS at o
  split at o
  · cases hx; cases hy; exact .inl ⟨_, _, rfl, rfl, GE.now o i (.int _)⟩
  · cases hx; cases hy
    split at o
    · rename_i h; exact .inr (.inl ⟨_, _, rfl, rfl, h, GE.now o i (.str _)⟩)
    · exact o.elim
  · rename_i a b
    split at o
    · rename_i hz
      obtain ⟨p, vs, rfl, h1, h1f, h2⟩ := rep_tup i hx
      obtain ⟨p2, vs2, rfl, h3, h3f, h4⟩ := rep_tup i hy
      refine .inr (.inr (.inl ⟨_, _, _, _, rfl, rfl, h1, h3, ?_, fun e => ?_, fun _ e => ?_, fun _ _ p hp => GE.newT o i hp (dpAll_append h2 h4)⟩))
      · rw [dpAll_len h2, dpAll_len h4]; exact hz
      · subst e; cases h2
        exact GE.now o i (.tup h3f h4)
      · subst e; cases h4
        rw [List.append_nil] at o
        exact GE.now o i (.tup h1f h2)
    · exact o.elim
  · exact lists _ _ (.inl rfl) (.inl rfl) o
  · exact lists _ _ (.inl rfl) (.inr rfl) o
  · exact lists _ _ (.inr rfl) (.inl rfl) o
  · exact lists _ _ (.inr rfl) (.inr rfl) o
  · exact o.elim

/-! ### == and != -/
/-- data without dicts, of bounded depth; nothing is asked of a text -/
def shpD (d : D) : Bool := PyData.plain d && decide (PyData.depth d ≤ 60)
theorem shpD_of {d : D} (h : shpD d = true) : PyData.plain d = true ∧ PyData.depth d ≤ 60 := by
  unfold shpD at h
  rw [Bool.and_eq_true] at h
  exact ⟨h.1, of_decide_eq_true h.2⟩
section
variable {X : Cx}
def rEqP (K : PySem.W.Frag) : R2 := fun x y H Q => ∃ d e, Dp K H x d ∧ Dp K H y e ∧ shpD d = true ∧ shpD e = true ∧ Q (.bl (PyData.eqv d e)) H
def rNeP (K : PySem.W.Frag) : R2 := fun x y H Q => ∃ d e, Dp K H x d ∧ Dp K H y e ∧ shpD d = true ∧ shpD e = true ∧ Q (.bl (!PyData.eqv d e)) H
def rInP (K : PySem.W.Frag) : R2 := fun x y H Q => ∃ d xs, Dp K H x d ∧ Dp K H y (.list xs) ∧ shpD d = true ∧ shpD (.list xs) = true ∧ Q (.bl (xs.any fun z => PyData.eqv z d)) H
def rNotInP (K : PySem.W.Frag) : R2 := fun x y H Q => ∃ d xs, Dp K H x d ∧ Dp K H y (.list xs) ∧ shpD d = true ∧ shpD (.list xs) = true ∧ Q (.bl (!xs.any fun z => PyData.eqv z d)) H
theorem op_eqP (hu : X.A.units + 64 < cLine) : OpR X (compareOp .Eq) (rEqP X.K) := by
  intro pins s σ H x y v u Q I rx ry h
  obtain ⟨d, e, hd, he, sd, se, q⟩ := h
  obtain ⟨as, r1⟩ := Dp.reads I d x v hd rx
  obtain ⟨bs, r2⟩ := Dp.reads I e y u he ry
  have h1 := shpD_of sd
  have h2 := shpD_of se
  exact PySem.SeqAt.eq_plain r1 r2 h1.1 h2.1 (by omega) ⟨.bl _, H, I, rfl, q⟩
theorem op_neP (hu : X.A.units + 64 < cLine) : OpR X (compareOp .NotEq) (rNeP X.K) := by
  intro pins s σ H x y v u Q I rx ry h
  obtain ⟨d, e, hd, he, sd, se, q⟩ := h
  obtain ⟨as, r1⟩ := Dp.reads I d x v hd rx
  obtain ⟨bs, r2⟩ := Dp.reads I e y u he ry
  have h1 := shpD_of sd
  have h2 := shpD_of se
  exact PySem.SeqAt.ne_plain r1 r2 h1.1 h2.1 (by omega) ⟨.bl _, H, I, rfl, q⟩
theorem op_inP (hu : X.A.units + 65 < cLine) : OpR X (compareOp .In) (rInP X.K) := by
  intro pins s σ H x y v u Q I rx ry h
  obtain ⟨d, xs, hd, he, sd, se, q⟩ := h
  obtain ⟨as, r1⟩ := Dp.reads I d x v hd rx
  obtain ⟨bs, r2⟩ := Dp.reads I _ y u he ry
  have h1 := shpD_of sd
  have h2 := shpD_of se
  have h3 : PyData.plainAll xs = true := h2.1
  exact PySem.SeqAt.in_list_data r2 r1 h3 h1.1 (by omega) ⟨.bl _, H, I, rfl, q⟩
theorem op_notInP (hu : X.A.units + 65 < cLine) : OpR X (compareOp .NotIn) (rNotInP X.K) := by
  intro pins s σ H x y v u Q I rx ry h
  obtain ⟨d, xs, hd, he, sd, se, q⟩ := h
  obtain ⟨as, r1⟩ := Dp.reads I d x v hd rx
  obtain ⟨bs, r2⟩ := Dp.reads I _ y u he ry
  have h1 := shpD_of sd
  have h2 := shpD_of se
  have h3 : PyData.plainAll xs = true := h2.1
  exact PySem.SeqAt.notIn_list_data r2 r1 h3 h1.1 (by omega) ⟨.bl _, H, I, rfl, q⟩
end
def flat : D → Bool
  | .none | .bool _ | .int _ | .str _ => true
  | _ => false
def eqG (neg : Bool) (a b : SV) : R SV := datS a >>= fun x => datS b >>= fun y => if shpD x = true ∧ shpD y = true then .ok (.d (.bool (if neg then !PyData.eqv x y else PyData.eqv x y))) else .bad
def eqS (neg : Bool) (a b : SV) : R SV := match a, b with
  | .d (.int x), .d (.int y) => .ok (.d (.bool (if neg then !decide (x = y) else decide (x = y))))
  | .d (.str x), .d (.str y) => .ok (.d (.bool (if neg then !decide (x = y) else decide (x = y))))
  | .d (.bool x), .d (.bool y) => .ok (.d (.bool (if neg then !decide (x = y) else decide (x = y))))
  | .d .none, .d (.str _) => .ok (.d (.bool neg))
  | .d (.str _), .d .none => .ok (.d (.bool neg))
  | .d .none, .d .none => .ok (.d (.bool !neg))
  | a, b => eqG neg a b
abbrev rEqA (K : PySem.W.Frag) : R2 := fun x y H Q => rEq x y H Q ∨ rEqP K x y H Q
abbrev rNeA (K : PySem.W.Frag) : R2 := fun x y H Q => rNe x y H Q ∨ rNeP K x y H Q
theorem o_eq {X : Cx} (hu : X.A.units + 64 < cLine) : OpR X (compareOp .Eq) (rEqA X.K) := Pl.OpR.or op_eq (op_eqP hu)
theorem o_ne {X : Cx} (hu : X.A.units + 64 < cLine) : OpR X (compareOp .NotEq) (rNeA X.K) := Pl.OpR.or op_ne (op_neP hu)
theorem r2_eqG {c : Ct} : R2ok c (rEqP c.K) (eqG false) := by
  intro Hf H x y rx ry Q i hx hy o
  unfold eqG at o
  cases e1 : datS rx with
  | ok d =>
    cases e2 : datS ry with
    | ok e =>
      simp only [e1, e2, ok_bind] at o
      split at o
      · rename_i h; exact ⟨d, e, looked (c := c) i hx e1, looked (c := c) i hy e2, h.1, h.2, GE.now o i (.bl _)⟩
      · exact o.elim
    | ex n as => cases ry <;> cases e2
    | bad => simp only [e1, e2, ok_bind, bad_bind] at o; exact o.elim
  | ex n as => cases rx <;> cases e1
  | bad => simp only [e1, bad_bind] at o; exact o.elim
theorem r2_neG {c : Ct} : R2ok c (rNeP c.K) (eqG true) := by
  intro Hf H x y rx ry Q i hx hy o
  unfold eqG at o
  cases e1 : datS rx with
  | ok d =>
    cases e2 : datS ry with
    | ok e =>
      simp only [e1, e2, ok_bind] at o
      split at o
      · rename_i h; exact ⟨d, e, looked (c := c) i hx e1, looked (c := c) i hy e2, h.1, h.2, GE.now o i (.bl _)⟩
      · exact o.elim
    | ex n as => cases ry <;> cases e2
    | bad => simp only [e1, e2, ok_bind, bad_bind] at o; exact o.elim
  | ex n as => cases rx <;> cases e1
  | bad => simp only [e1, bad_bind] at o; exact o.elim
theorem dec_vi {x y : Int} : decide (V.int x = V.int y) = decide (x = y) := by simp
theorem dec_vs {x y : Str} : decide (V.str x = V.str y) = decide (x = y) := by simp
theorem dec_vb {x y : Bool} : decide (V.bl x = V.bl y) = decide (x = y) := by simp
theorem r2_eq {c : Ct} : R2ok c (rEqA c.K) (eqS false) := by
  intro Hf H x y rx ry Q i hx hy o
  unfold eqS at o
  split at o
  · cases hx; cases hy; exact .inl ⟨rfl, by rw [dec_vi]; exact GE.now o i (.bl _)⟩
  · cases hx; cases hy; exact .inl ⟨rfl, by rw [dec_vs]; exact GE.now o i (.bl _)⟩
  · cases hx; cases hy; exact .inl ⟨rfl, by rw [dec_vb]; exact GE.now o i (.bl _)⟩
  · cases hx; cases hy; exact .inl ⟨rfl, GE.now o i (.bl _)⟩
  · cases hx; cases hy; exact .inl ⟨rfl, GE.now o i (.bl _)⟩
  · cases hx; cases hy; exact .inl ⟨rfl, GE.now o i (.bl _)⟩
  · exact .inr (r2_eqG Hf H x y _ _ Q i hx hy o)
theorem r2_ne {c : Ct} : R2ok c (rNeA c.K) (eqS true) := by
  intro Hf H x y rx ry Q i hx hy o
  unfold eqS at o
  split at o
  · cases hx; cases hy; exact .inl ⟨rfl, by rw [dec_vi]; exact GE.now o i (.bl _)⟩
  · cases hx; cases hy; exact .inl ⟨rfl, by rw [dec_vs]; exact GE.now o i (.bl _)⟩
  · cases hx; cases hy; exact .inl ⟨rfl, by rw [dec_vb]; exact GE.now o i (.bl _)⟩
  · cases hx; cases hy; exact .inl ⟨rfl, GE.now o i (.bl _)⟩
  · cases hx; cases hy; exact .inl ⟨rfl, GE.now o i (.bl _)⟩
  · cases hx; cases hy; exact .inl ⟨rfl, GE.now o i (.bl _)⟩
  · exact .inr (r2_neG Hf H x y _ _ Q i hx hy o)
/-- is None, is not None -/
def isN : D → Bool
  | .none => true
  | _ => false
def isnS (neg : Bool) : SV → SV → R SV
  | .d x, .d .none => .ok (.d (.bool (if neg then !isN x else isN x)))
  | .ol _, .d .none => .ok (.d (.bool neg))
  | .od _, .d .none => .ok (.d (.bool neg))
  | _, _ => .bad
theorem non_iff {K : PySem.W.Frag} {H : Hp} {v : V} {d : D} (h : Dp K H v d) : decide (v = V.non) = isN d := by
  cases h <;> rfl
theorem r2_isn {c : Ct} : R2ok c (fun x y H Q => y = .non ∧ Q (.bl (decide (x = .non))) H) (isnS false) := by
  intro Hf H x y rx ry Q i hx hy o
  unfold isnS at o
  split at o
  · cases hy
    refine ⟨rfl, GE.now o i ?_⟩
    rw [non_iff hx]
    exact .bl _
  · cases hy
    obtain ⟨p, vs, rfl, _⟩ := hx
    exact ⟨rfl, GE.now o i (.bl _)⟩
  · cases hy
    obtain ⟨p, vs, rfl, _⟩ := hx
    exact ⟨rfl, GE.now o i (.bl _)⟩
  · exact o.elim
theorem r2_notn {c : Ct} : R2ok c (fun x y H Q => y = .non ∧ Q (.bl (!decide (x = .non))) H) (isnS true) := by
  intro Hf H x y rx ry Q i hx hy o
  unfold isnS at o
  split at o
  · cases hy
    refine ⟨rfl, GE.now o i ?_⟩
    rw [non_iff hx]
    exact .bl _
  · cases hy
    obtain ⟨p, vs, rfl, _⟩ := hx
    exact ⟨rfl, GE.now o i (.bl _)⟩
  · cases hy
    obtain ⟨p, vs, rfl, _⟩ := hx
    exact ⟨rfl, GE.now o i (.bl _)⟩
  · exact o.elim

/-! ### in: a text in a text, data in a list or (flat) in a tuple -/
def datL : SV → R (List D)
  | .d (.list xs) => .ok xs
  | .ol xs => .ok xs
  | _ => .bad
def inS (neg : Bool) (a b : SV) : R SV := match a, b with
  | .d (.str x), .d (.str y) => .ok (.d (.bool (if neg then !(!(Builtin.Str.occurrences y x 0 y.length 1).isEmpty) else !(Builtin.Str.occurrences y x 0 y.length 1).isEmpty)))
  | .d x, .d (.list ys) => if shpD x = true ∧ shpD (.list ys) = true then .ok (.d (.bool (if neg then !(ys.any fun z => PyData.eqv z x) else ys.any fun z => PyData.eqv z x))) else .bad
  | .d x, .ol ys => if shpD x = true ∧ shpD (.list ys) = true then .ok (.d (.bool (if neg then !(ys.any fun z => PyData.eqv z x) else ys.any fun z => PyData.eqv z x))) else .bad
  | .d x, .d (.tuple ys) => if flat x = true ∧ ys.all flat = true then .ok (.d (.bool (if neg then !(ys.any fun z => PyData.eqv z x) else ys.any fun z => PyData.eqv z x))) else .bad
  | _, _ => .bad
theorem flat_of {K : PySem.W.Frag} {H : Hp} {v : V} {d : D} (h : Dp K H v d) (e : flat d = true) : flatV v = true := by
  cases h with
  | lst _ _ => cases e
  | tup _ _ => cases e
  | _ => rfl
theorem eqV_of {K : PySem.W.Frag} {H : Hp} {v u : V} {d e : D} (h : Dp K H v d) (h' : Dp K H u e) (f : flat d = true) (f' : flat e = true) : eqV v u = PyData.eqv d e := by
  cases h <;> cases h' <;> first
    | rfl
    | cases f
    | cases f'
    | simp [eqV, PyData.eqv]
theorem flatAll_of {K : PySem.W.Frag} {H : Hp} : ∀ {vs : List V} {ds : List D}, DpAll K H vs ds → ds.all flat = true → vs.all flatV = true
  | _, _, .nil, _ => rfl
  | _, _, .cons a b, e => by
    rw [List.all_cons, Bool.and_eq_true] at e
    rw [List.all_cons, flat_of a e.1, flatAll_of b e.2] <;> rfl
theorem inV_of {K : PySem.W.Frag} {H : Hp} {v : V} {d : D} (h : Dp K H v d) (f : flat d = true) : ∀ {vs : List V} {ds : List D}, DpAll K H vs ds → ds.all flat = true → inV v vs = ds.any fun z => PyData.eqv z d
  | _, _, .nil, _ => rfl
  | _, _, .cons a b, e => by
    rw [List.all_cons, Bool.and_eq_true] at e
    show (eqV _ v || inV v _) = _
    rw [List.any_cons, eqV_of a h e.1 f, inV_of h f b e.2]
abbrev rInA (K : PySem.W.Frag) : R2 := fun x y H Q => (∃ i j, x = .str i ∧ y = .str j ∧ Q (.bl (!(Builtin.Str.occurrences j i 0 j.length 1).isEmpty)) H) ∨ (rInP K x y H Q ∨ rIn K false x y H Q)
abbrev rNotInA (K : PySem.W.Frag) : R2 := fun x y H Q => (∃ i j, x = .str i ∧ y = .str j ∧ Q (.bl (!(!(Builtin.Str.occurrences j i 0 j.length 1).isEmpty))) H) ∨ (rNotInP K x y H Q ∨ rIn K true x y H Q)
theorem o_in {X : Cx} (hu : X.A.units + 65 < cLine) : OpR X (compareOp .In) (rInA X.K) := Pl.OpR.or op_in_str (Pl.OpR.or (op_inP hu) op_in_seq)
theorem o_notin {X : Cx} (hu : X.A.units + 65 < cLine) : OpR X (compareOp .NotIn) (rNotInA X.K) := Pl.OpR.or op_notIn_str (Pl.OpR.or (op_notInP hu) op_notIn_seq)
theorem r2_in {c : Ct} : R2ok c (rInA c.K) (inS false) := by
  intro Hf H x y rx ry Q i hx hy o
  unfold inS at o
  split at o
  · cases hx; cases hy; exact .inl ⟨_, _, rfl, rfl, GE.now o i (.bl _)⟩
  · split at o
    · rename_i h
      exact .inr (.inl ⟨_, _, looked (c := c) i hx rfl, looked (c := c) i hy rfl, h.1, h.2, GE.now o i (.bl _)⟩)
    · exact o.elim
  · split at o
    · rename_i h
      exact .inr (.inl ⟨_, _, looked (c := c) i hx rfl, looked (c := c) i hy rfl, h.1, h.2, GE.now o i (.bl _)⟩)
    · exact o.elim
  · split at o
    · rename_i h
      obtain ⟨p, vs, rfl, h1, _, h3⟩ := rep_tup i hy
      have e := inV_of hx h.1 h3 h.2
      refine .inr (.inr ⟨p, vs, rfl, .inr h1, flat_of hx h.1, flatAll_of h3 h.2, ?_⟩)
      rw [e]
      exact GE.now o i (.bl _)
    · exact o.elim
  · exact o.elim
theorem r2_notin {c : Ct} : R2ok c (rNotInA c.K) (inS true) := by
  intro Hf H x y rx ry Q i hx hy o
  unfold inS at o
  split at o
  · cases hx; cases hy; exact .inl ⟨_, _, rfl, rfl, GE.now o i (.bl _)⟩
  · split at o
    · rename_i h
      exact .inr (.inl ⟨_, _, looked (c := c) i hx rfl, looked (c := c) i hy rfl, h.1, h.2, GE.now o i (.bl _)⟩)
    · exact o.elim
  · split at o
    · rename_i h
      exact .inr (.inl ⟨_, _, looked (c := c) i hx rfl, looked (c := c) i hy rfl, h.1, h.2, GE.now o i (.bl _)⟩)
    · exact o.elim
  · split at o
    · rename_i h
      obtain ⟨p, vs, rfl, h1, _, h3⟩ := rep_tup i hy
      have e := inV_of hx h.1 h3 h.2
      refine .inr (.inr ⟨p, vs, rfl, .inr h1, flat_of hx h.1, flatAll_of h3 h.2, ?_⟩)
      rw [e]
      exact GE.now o i (.bl _)
    · exact o.elim
  · exact o.elim

/-! ### items, slices -/
def ixS (a b : SV) : R SV := match a, b with
  | .d (.list xs), .d (.int i) => (match atI xs i with | some d => .ok (.d d) | none => .bad)
  | .ol xs, .d (.int i) => (match atI xs i with | some d => .ok (.d d) | none => .bad)
  | .d (.tuple xs), .d (.int i) => (match atI xs i with | some d => .ok (.d d) | none => .bad)
  | .d (.str z), .d (.int i) => if z.length ≤ sizeLine then (match atI z.cps.toList i with | some c => .ok (.d (.str ⟨#[c]⟩)) | none => .bad) else .bad
  | _, _ => .bad
theorem dpAll_at {K : PySem.W.Frag} {H : Hp} {vs : List V} {ds : List D} {i : Int} {d : D} (h : DpAll K H vs ds) (e : atI ds i = some d) : ∃ v, atI vs i = some v ∧ Dp K H v d := by
  unfold atI at e ⊢
  rw [dpAll_len h]
  cases q : ixN ds.length i with
  | none => rw [q] at e; cases e
  | some j =>
    rw [q] at e
    exact dpAll_get h e
theorem r2_ix {c : Ct} : R2ok c (rIx c.K) ixS := by
  intro Hf H x y rx ry Q i hx hy o
  unfold ixS at o
  split at o
  · split at o
    · rename_i e
      cases hy
      cases hx with
      | lst h1 h2 =>
        obtain ⟨v, e1, e2⟩ := dpAll_at h2 e
        exact .inl ⟨_, _, _, v, rfl, rfl, i.seq h1, e1, GE.now o i e2⟩
    · exact o.elim
  · split at o
    · rename_i e
      cases hy
      obtain ⟨p, vs, rfl, h1, h2, h3⟩ := hx
      obtain ⟨v, e1, e2⟩ := dpAll_at h3 e
      exact .inl ⟨_, _, _, v, rfl, rfl, .inl (.inl h1), e1, GE.now o i e2⟩
    · exact o.elim
  · split at o
    · rename_i e
      cases hy
      obtain ⟨p, vs, rfl, h1, _, h3⟩ := rep_tup i hx
      obtain ⟨v, e1, e2⟩ := dpAll_at h3 e
      exact .inr (.inl ⟨_, _, _, v, rfl, rfl, h1, e1, GE.now o i e2⟩)
    · exact o.elim
  · split at o
    · rename_i hz
      split at o
      · rename_i e
        cases hx; cases hy
        exact .inr (.inr ⟨_, _, _, rfl, rfl, hz, e, GE.now o i (.str _)⟩)
      · exact o.elim
    · exact o.elim
  · exact o.elim
def cutD {α : Type} (xs : List α) (lo hi : Option Int) : List α := (xs.drop (HT.sIx xs.length 0 lo)).take (HT.sIx xs.length xs.length hi - HT.sIx xs.length 0 lo)
theorem dpAll_cut {K : PySem.W.Frag} {H : Hp} {vs : List V} {ds : List D} {lo hi : Option Int} (h : DpAll K H vs ds) : DpAll K H (cutV vs lo hi) (cutD ds lo hi) := by
  unfold cutV cutD
  rw [dpAll_len h]
  exact dpAll_take _ (dpAll_drop _ h)
def slS (a : SV) (lo hi : Option Int) : R SV := match a with
  | .d (.list xs) => .ok (.ol (cutD xs lo hi))
  | .ol xs => .ok (.ol (cutD xs lo hi))
  | .d (.tuple xs) => .ok (.d (.tuple (cutD xs lo hi)))
  | .d (.str z) => if z.length ≤ sizeLine then .ok (.d (.str (cutS z lo hi))) else .bad
  | _ => .bad
abbrev rSl (K : PySem.W.Frag) : V → Option Int → Option Int → Hp → VK → Prop := fun x lo hi H Q => rSlL K x lo hi H Q ∨ (rSlA K x lo hi H Q ∨ rSlS x lo hi H Q)
theorem o_sl {X : Cx} : SlR X (rSl X.K) := sl_list.or (sl_tupA.or sl_str)
theorem sIx_whole {α : Type} {xs : List α} {lo hi : Option Int} (h : HT.sIx xs.length 0 lo = 0 ∧ HT.sIx xs.length xs.length hi = xs.length) : cutD xs lo hi = xs := by
  unfold cutD
  rw [h.1, h.2]
  simp
theorem slS_ok {c : Ct} {Hf H : Hp} {x : V} {r : SV} {lo hi : Option Int} {Q : VK} (i : Same Hf H) (hx : RepR c.K Hf H x r) (o : Out c Hf H (slS r lo hi) (GE c true Hf H Q)) : rSl c.K x lo hi H Q := by
  unfold slS at o
  split at o
  · obtain ⟨p, vs, rfl, h1, h2⟩ := rep_list i hx (.inl rfl)
    exact .inl ⟨p, vs, rfl, h1, fun q hq => GE.newL o i hq (dpAll_cut h2)⟩
  · obtain ⟨p, vs, rfl, h1, h2⟩ := rep_list i hx (.inr rfl)
    exact .inl ⟨p, vs, rfl, h1, fun q hq => GE.newL o i hq (dpAll_cut h2)⟩
  · obtain ⟨p, vs, rfl, h1, h1f, h3⟩ := rep_tup i hx
    refine .inr (.inl ⟨p, vs, rfl, h1, fun e => ?_, fun _ q hq => GE.newT o i hq (dpAll_cut h3)⟩)
    rw [dpAll_len h3] at e
    rw [sIx_whole e] at o
    exact GE.now o i (.tup h1f h3)
  · split at o
    · rename_i hz
      cases hx
      exact .inr (.inr ⟨_, rfl, hz, GE.now o i (.str _)⟩)
    · exact o.elim
  · exact o.elim
def SemO (c : Ct) (t : TO) (f : En → R (Option Int)) : Prop := ∀ B H0 Hf H σ ρ Q, EnvOk c.K B H0 Hf H σ ρ → Out c Hf H (f ρ) (fun o => ∀ Hf' H', Ext Hf H Hf' H' → Q o H') → t σ H Q
def noO : En → R (Option Int) := fun _ => .ok none
def someO (f : En → R SV) : En → R (Option Int) := fun ρ => f ρ >>= fun a => match a with
  | .d (.int i) => .ok (some i)
  | _ => .bad
theorem sem_noO {c : Ct} : SemO c tNoPart noO := fun B H0 Hf H σ ρ Q I o => o Hf H (.refl I.i)
theorem sem_someO {c : Ct} {t : TE} {f : En → R SV} (h : SemE c false t f) : SemO c (tPart t) (someO f) := by
  intro B H0 Hf H σ ρ Q I o
  refine h B H0 Hf H σ ρ _ I (Out.bind o fun a ea o1 => fun v Hf1 H1 x1 q1 _ => ?_)
  split at o1
  · cases q1; exact ⟨_, rfl, o1 _ _ x1⟩
  · exact o1.elim
def slice (fe : En → R SV) (fl fh : En → R (Option Int)) : En → R SV := fun ρ => fe ρ >>= fun a => fl ρ >>= fun l => fh ρ >>= fun h => slS a l h
theorem sem_slice {c : Ct} {te : TE} {tl th : TO} {fe : En → R SV} {fl fh : En → R (Option Int)} (he : SemE c false te fe) (hl : SemO c tl fl) (hh : SemO c th fh) : SemE c true (tSl (rSl c.K) te tl th) (slice fe fl fh) := by
  intro B H0 Hf H σ ρ Q I o
  refine he B H0 Hf H σ ρ _ I (Out.bind o fun a ea o1 => fun v Hf1 H1 x1 q1 _ => ?_)
  refine hl B H0 Hf1 H1 σ ρ _ (I.grow x1) (Out.bind (o1.grow x1 fun _ z => z) fun l el o2 => fun Hf2 H2 x2 => ?_)
  refine hh B H0 Hf2 H2 σ ρ _ ((I.grow x1).grow x2) (Out.bind (o2.grow x2 fun _ z => z) fun h eh o3 => fun Hf3 H3 x3 => ?_)
  exact slS_ok x3.i ((q1.grow x2).grow x3) (o3.grow x3 fun _ g => ((g.grow x1).grow x2).grow x3)
end Pl
namespace Pl
open PySem PySem.Spec PyProof.Rows L2
section
variable {c : Ct}

/-! ### tests -/
def bool1 : SV → R Bool
  | .d (.bool b) => .ok b
  | _ => .bad
def asT (f : En → R SV) : En → R Bool := fun ρ => f ρ >>= bool1
theorem sem_tB {b : Bool} {t : TE} {f : En → R SV} (h : SemE c b t f) : SemT c (tB t) (asT f) := by
  intro B H0 Hf H σ ρ Q I o
  refine h B H0 Hf H σ ρ _ I (Out.bind o fun a ea o1 => fun v Hf1 H1 x1 q1 _ => ?_)
  unfold bool1 at o1
  split at o1
  · cases q1; exact ⟨_, rfl, o1 _ _ x1⟩
  · exact o1.elim
theorem sem_tTest {b : Bool} {t : TE} {f : En → R SV} (h : SemE c b t f) : SemT c (tTest t) (asT f) := sem_tB h
def truD : D → R Bool
  | .none => .ok false
  | .bool b => .ok b
  | .int i => .ok (i != 0)
  | .str y => if y.length ≤ sizeLine then .ok ((y.length : Int) != 0) else .bad
  | .list xs => .ok (!xs.isEmpty)
  | .tuple xs => .ok (!xs.isEmpty)
  | .dict _ => .bad
def truS : SV → R Bool
  | .d x => truD x
  | .ol xs => .ok (!xs.isEmpty)
  | .od kvs => .ok (!kvs.isEmpty)
  | .pin xs => .ok (!xs.isEmpty)
  | .exn _ _ => .bad
  | .pd _ => .bad
def tru (f : En → R SV) : En → R Bool := fun ρ => f ρ >>= truS
theorem dpAll_emp {K : PySem.W.Frag} {H : Hp} {vs : List V} {ds : List D} (h : DpAll K H vs ds) : vs.isEmpty = ds.isEmpty := by cases h <;> rfl
theorem truS_ok {Hf H : Hp} {v : V} {r : SV} {k : Bool} (i : Same Hf H) (q : RepR c.K Hf H v r) (e : truS r = .ok k) : TruV c.K v H k := by
  cases r with
  | d x =>
    cases q with
    | non => cases e; rfl
    | bl b => cases e; rfl
    | int n => cases e; rfl
    | str y =>
      unfold truS truD at e
      dsimp only at e
      split at e
      · rename_i h; cases e; exact ⟨h, rfl⟩
      · cases e
    | lst h1 h2 => cases e; exact .inl ⟨_, i.seq h1, by rw [dpAll_emp h2]⟩
    | tup h1 h2 => cases e; exact .inr (.inl ⟨_, sqT_mono i h1, by rw [dpAll_emp h2]⟩)
  | ol xs => cases e; obtain ⟨p, vs, rfl, h1, h2, h3⟩ := q; exact .inl ⟨_, .inl (.inl h1), by rw [dpAll_emp h3]⟩
  | od kvs =>
    cases e; obtain ⟨p, vs, rfl, h1, h2, h3⟩ := q
    refine .inr (.inr ⟨_, h1, ?_⟩)
    cases h3 <;> rfl
  | pin xs => cases e; obtain ⟨p, vs, rfl, h1, h2, h3⟩ := q; exact .inl ⟨_, .inl (.inl h1), by rw [dpAll_emp h3]⟩
  | exn n as => cases e
  | pd kvs => cases e
theorem sem_tru {t : TE} {f : En → R SV} (h : SemE c false t f) : SemT c (fun σ H Q => t σ H fun x H' => ∃ k, TruV c.K x H' k ∧ Q k H') (tru f) := by
  intro B H0 Hf H σ ρ Q I o
  refine h B H0 Hf H σ ρ _ I (Out.bind o fun a ea o1 => fun v Hf1 H1 x1 q1 _ => ?_)
  cases e : truS a with
  | ok k => rw [e] at o1; exact ⟨k, truS_ok x1.i q1 e, o1 _ _ x1⟩
  | bad => rw [e] at o1; exact o1.elim
  | ex n as =>
    exfalso
    unfold truS truD at e
    split at e
    · split at e <;> first | cases e | (split at e <;> cases e)
    · cases e
    · cases e
    · cases e
    · cases e
    · cases e
def andT (f g : En → R Bool) : En → R Bool := fun ρ => f ρ >>= fun b => if b = true then g ρ else .ok false
def orT (f g : En → R Bool) : En → R Bool := fun ρ => f ρ >>= fun b => if b = true then .ok true else g ρ
def notT (f : En → R Bool) : En → R Bool := fun ρ => f ρ >>= fun b => .ok (!b)
theorem sem_and {t u : TT} {f g : En → R Bool} (h1 : SemT c t f) (h2 : SemT c u g) : SemT c (tAnd t u) (andT f g) := by
  intro B H0 Hf H σ ρ Q I o
  refine h1 B H0 Hf H σ ρ _ I (Out.bind o fun a ea o1 => fun Hf1 H1 x1 => ?_)
  cases a with
  | true => exact iteT (h2 B H0 Hf1 H1 σ ρ _ (I.grow x1) (o1.grow x1 fun _ g => g.grow x1))
  | false => exact iteF (o1 _ _ x1)
theorem sem_or {t u : TT} {f g : En → R Bool} (h1 : SemT c t f) (h2 : SemT c u g) : SemT c (tOr t u) (orT f g) := by
  intro B H0 Hf H σ ρ Q I o
  refine h1 B H0 Hf H σ ρ _ I (Out.bind o fun a ea o1 => fun Hf1 H1 x1 => ?_)
  cases a with
  | true => exact iteT (o1 _ _ x1)
  | false => exact iteF (h2 B H0 Hf1 H1 σ ρ _ (I.grow x1) (o1.grow x1 fun _ g => g.grow x1))
theorem sem_not {t : TT} {f : En → R Bool} (h1 : SemT c t f) : SemT c (tNot t) (notT f) := by
  intro B H0 Hf H σ ρ Q I o
  refine h1 B H0 Hf H σ ρ _ I (Out.bind o fun a ea o1 => fun Hf1 H1 x1 => o1 _ _ x1)
/-! ### and, or, not as values; a if t else b -/
def andV (f g : En → R SV) : En → R SV := fun ρ => f ρ >>= bool1 >>= fun b => if b = true then g ρ else .ok (.d (.bool false))
def orV (f g : En → R SV) : En → R SV := fun ρ => f ρ >>= bool1 >>= fun b => if b = true then .ok (.d (.bool true)) else g ρ
def notV (f : En → R SV) : En → R SV := fun ρ => f ρ >>= bool1 >>= fun b => .ok (.d (.bool !b))
def notN (f : En → R SV) : En → R SV := fun ρ => f ρ >>= truS >>= fun b => .ok (.d (.bool !b))
theorem bool1_ok {K : Kx} {Hf H : Hp} {v : V} {r : SV} {b : Bool} (q : RepR K Hf H v r) (e : bool1 r = .ok b) : v = .bl b := by
  unfold bool1 at e
  split at e
  · cases e; cases q; rfl
  · cases e
theorem out_bool {α : Type} {Hf H : Hp} {a : SV} {k : Bool → R α} {G : α → Prop} (o : Out c Hf H (bool1 a >>= k) G) : ∃ b, bool1 a = .ok b ∧ Out c Hf H (k b) G := by
  cases e : bool1 a with
  | ok b => rw [e] at o; exact ⟨b, rfl, o⟩
  | bad => rw [e] at o; exact o.elim
  | ex n as => exfalso; unfold bool1 at e; split at e <;> cases e
theorem sem_andV {b : Bool} {t u : TE} {f g : En → R SV} (h1 : SemE c false t f) (h2 : SemE c b u g) : SemE c b (tAndV t u) (andV f g) := by
  intro B H0 Hf H σ ρ Q I o
  unfold andV at o
  rw [bind_assoc'] at o
  refine h1 B H0 Hf H σ ρ _ I (Out.bind o fun a ea o1 => fun v Hf1 H1 x1 q1 _ => ?_)
  obtain ⟨k, e, o2⟩ := out_bool o1
  refine ⟨k, bool1_ok q1 e, ?_⟩
  cases k with
  | true => exact iteT (h2 B H0 Hf1 H1 σ ρ _ (I.grow x1) (o2.grow x1 fun _ g => g.grow x1))
  | false => exact iteF (GE.now (GE.grow (show GE c b Hf H Q _ from o2) x1) x1.i (.bl _))
theorem sem_orV {b : Bool} {t u : TE} {f g : En → R SV} (h1 : SemE c false t f) (h2 : SemE c b u g) : SemE c b (tOrV t u) (orV f g) := by
  intro B H0 Hf H σ ρ Q I o
  unfold orV at o
  rw [bind_assoc'] at o
  refine h1 B H0 Hf H σ ρ _ I (Out.bind o fun a ea o1 => fun v Hf1 H1 x1 q1 _ => ?_)
  obtain ⟨k, e, o2⟩ := out_bool o1
  refine ⟨k, bool1_ok q1 e, ?_⟩
  cases k with
  | true => exact iteT (GE.now (GE.grow (show GE c b Hf H Q _ from o2) x1) x1.i (.bl _))
  | false => exact iteF (h2 B H0 Hf1 H1 σ ρ _ (I.grow x1) (o2.grow x1 fun _ g => g.grow x1))
theorem sem_notV {b : Bool} {t : TE} {f : En → R SV} (h1 : SemE c false t f) : SemE c b (tNotV t) (notV f) := by
  intro B H0 Hf H σ ρ Q I o
  unfold notV at o
  rw [bind_assoc'] at o
  refine h1 B H0 Hf H σ ρ _ I (Out.bind o fun a ea o1 => fun v Hf1 H1 x1 q1 _ => ?_)
  obtain ⟨k, e, o2⟩ := out_bool o1
  exact ⟨k, bool1_ok q1 e, GE.now (GE.grow (show GE c b Hf H Q _ from o2) x1) x1.i (.bl _)⟩
theorem sem_notN {b : Bool} {t : TE} {f : En → R SV} (h1 : SemE c false t f) : SemE c b (tNotT c.K t) (notN f) := by
  intro B H0 Hf H σ ρ Q I o
  unfold notN at o
  rw [bind_assoc'] at o
  refine h1 B H0 Hf H σ ρ _ I (Out.bind o fun a ea o1 => fun v Hf1 H1 x1 q1 _ => ?_)
  cases e : truS a with
  | ok k => rw [e] at o1; exact ⟨k, truS_ok x1.i q1 e, GE.now (GE.grow (show GE c b Hf H Q _ from o1) x1) x1.i (.bl _)⟩
  | bad => rw [e] at o1; exact o1.elim
  | ex n as =>
    exfalso
    unfold truS truD at e
    split at e
    · split at e <;> first | cases e | (split at e <;> cases e)
    · cases e
    · cases e
    · cases e
    · cases e
    · cases e
def iff' (t : En → R Bool) (f g : En → R SV) : En → R SV := fun ρ => t ρ >>= fun b => if b = true then f ρ else g ρ
theorem sem_ifE {b : Bool} {t : TT} {u v : TE} {ft : En → R Bool} {f g : En → R SV} (h : SemT c t ft) (h1 : SemE c b u f) (h2 : SemE c b v g) : SemE c b (tIf t u v) (iff' ft f g) := by
  intro B H0 Hf H σ ρ Q I o
  refine h B H0 Hf H σ ρ _ I (Out.bind o fun a ea o1 => fun Hf1 H1 x1 => ?_)
  cases a with
  | true => exact iteT (h1 B H0 Hf1 H1 σ ρ _ (I.grow x1) (o1.grow x1 fun _ g => g.grow x1))
  | false => exact iteF (h2 B H0 Hf1 H1 σ ρ _ (I.grow x1) (o1.grow x1 fun _ g => g.grow x1))
def chain (g g' : SV → SV → R SV) (fa fb fc : En → R SV) : En → R SV := fun ρ => fa ρ >>= fun a => fb ρ >>= fun b => g a b >>= fun z => bool1 z >>= fun k => if k = true then fc ρ >>= fun w => g' b w else .ok (.d (.bool false))
theorem sem_chain {r r' : R2} {g g' : SV → SV → R SV} {ta tb tc : TE} {fa fb fc : En → R SV} (hr : R2ok c r g) (hr' : R2ok c r' g') (ha : SemE c false ta fa) (hb : SemE c false tb fb) (hc : SemE c false tc fc) :
    SemE c true (tChain r r' ta tb tc) (chain g g' fa fb fc) := by
  intro B H0 Hf H σ ρ Q I o
  refine ha B H0 Hf H σ ρ _ I (Out.bind o fun a ea o1 => fun v Hf1 H1 x1 q1 _ => ?_)
  refine hb B H0 Hf1 H1 σ ρ _ (I.grow x1) (Out.bind (o1.grow x1 fun _ z => z) fun b eb o2 => fun u Hf2 H2 x2 q2 _ => ?_)
  refine hr Hf2 H2 v u a b _ x2.i (q1.grow x2) q2 (Out.bind (o2.grow x2 fun _ z => z) fun z ez o3 => fun w Hf3 H3 x3 q3 _ => ?_)
  obtain ⟨k, e, o4⟩ := out_bool o3
  refine ⟨k, bool1_ok q3 e, ?_⟩
  have X := (x1.trans x2).trans x3
  cases k with
  | true =>
    refine iteT (hc B H0 Hf3 H3 σ ρ _ (I.grow X) (Out.bind (o4.grow x3 fun _ z => z) fun y ey o5 => fun w2 Hf4 H4 x4 q4 _ => ?_))
    exact hr' Hf4 H4 u w2 b y Q x4.i (((q2.grow x3).grow x4)) q4 (o5.grow x4 fun _ g => GE.grow g (X.trans x4))
  | false => exact iteF (GE.now (GE.grow (show GE c true Hf H Q _ from o4) X) X.i (.bl _))

/-! ### argument lists -/
def nilA : En → R (List D) := fun _ => .ok []
def conA (f : En → R SV) (g : En → R (List D)) : En → R (List D) := fun ρ => f ρ >>= fun a => datS a >>= fun d => g ρ >>= fun ds => .ok (d :: ds)
theorem sem_nilA : SemA c tNil nilA := fun B H0 Hf H σ ρ Q I o => o [] Hf H (.refl I.i) .nil
theorem out_dat {α : Type} {Hf H : Hp} {a : SV} {k : D → R α} {G : α → Prop} (o : Out c Hf H (datS a >>= k) G) : ∃ d, datS a = .ok d ∧ Out c Hf H (k d) G := by
  cases e : datS a with
  | ok b => rw [e] at o; exact ⟨b, rfl, o⟩
  | bad => rw [e] at o; exact o.elim
  | ex n as => cases a <;> cases e
theorem sem_conA {te : TE} {t : TA} {f : En → R SV} {g : En → R (List D)} (h : SemE c true te f) (h' : SemA c t g) : SemA c (tCons te t) (conA f g) := by
  intro B H0 Hf H σ ρ Q I o
  refine h B H0 Hf H σ ρ _ I (Out.bind o fun a ea o1 => fun v Hf1 H1 x1 q1 fr => ?_)
  obtain ⟨d, e, o2⟩ := out_dat o1
  obtain ⟨Hf2, x2, q2⟩ := froze x1 q1 (fr rfl) e
  refine h' B H0 Hf2 H1 σ ρ _ (I.grow x2) (Out.bind (o2.grow x2 fun _ z => z) fun ds eds o3 => fun vs Hf3 H3 x3 q3 => ?_)
  exact (show GA c Hf H Q (d :: ds) from o3) (v :: vs) Hf3 H3 (x2.trans x3) (.cons (dp_mono x3.f q2) q3)
def nilB : En → R (List SV) := fun _ => .ok []
def conB (f : En → R SV) (g : En → R (List SV)) : En → R (List SV) := fun ρ => f ρ >>= fun a => g ρ >>= fun ds => .ok (a :: ds)
theorem sem_nilB : SemB c tNil nilB := fun B H0 Hf H σ ρ Q I o => o [] Hf H (.refl I.i) .nil
theorem sem_conB {te : TE} {t : TA} {f : En → R SV} {g : En → R (List SV)} (h : SemE c false te f) (h' : SemB c t g) : SemB c (tCons te t) (conB f g) := by
  intro B H0 Hf H σ ρ Q I o
  refine h B H0 Hf H σ ρ _ I (Out.bind o fun a ea o1 => fun v Hf1 H1 x1 q1 _ => ?_)
  refine h' B H0 Hf1 H1 σ ρ _ (I.grow x1) (Out.bind (o1.grow x1 fun _ z => z) fun ds eds o3 => fun vs Hf3 H3 x3 q3 => ?_)
  exact (show GB c Hf H Q (a :: ds) from o3) (v :: vs) Hf3 H3 (x1.trans x3) (.cons (q1.grow x3) q3)
/-! ### displays -/
def dispT (f : En → R (List D)) : En → R SV := fun ρ => f ρ >>= fun ds => if ds.length ≤ 1000 then .ok (.d (.tuple ds)) else .bad
def dispL (f : En → R (List D)) : En → R SV := fun ρ => f ρ >>= fun ds => if ds.length ≤ 1000 then .ok (.ol ds) else .bad
theorem sem_tup {t : TA} {f : En → R (List D)} (h : SemA c t f) : SemE c true (tTup t) (dispT f) := by
  intro B H0 Hf H σ ρ Q I o
  refine h B H0 Hf H σ ρ _ I (Out.bind o fun ds eds o1 => fun vs Hf1 H1 x1 q1 => ?_)
  split at o1
  · rename_i hl
    exact ⟨Nat.le_of_lt (small1000 (by rw [dpAll_len q1]; exact hl)), fun p hp => GE.newT (GE.grow (show GE c true Hf H Q _ from o1) x1) x1.i hp q1⟩
  · exact o1.elim
theorem sem_lst {t : TA} {f : En → R (List D)} (h : SemA c t f) : SemE c true (tLst t) (dispL f) := by
  intro B H0 Hf H σ ρ Q I o
  refine h B H0 Hf H σ ρ _ I (Out.bind o fun ds eds o1 => fun vs Hf1 H1 x1 q1 => ?_)
  split at o1
  · rename_i hl
    exact ⟨Nat.le_of_lt (small1000 (by rw [dpAll_len q1]; exact hl)), fun p hp => GE.newL (GE.grow (show GE c true Hf H Q _ from o1) x1) x1.i hp q1⟩
  · exact o1.elim

/-! ### a def's promise, and its call -/
def spF (K : PySem.W.Frag) (cm : Nat → Addr × List Str) (n : Nat) (g : List D → R SV) : Sp := fun vs H Q E => vs.length = n ∧ ∃ (ex : Exi) (Hf : Hp) (ds : List D), Same Hf H ∧ DpAll K Hf vs ds ∧ Out ⟨⟨K, ex⟩, cm, E⟩ Hf H (g ds) (GE ⟨⟨K, ex⟩, cm, E⟩ true Hf H Q)
def callF (n : Nat) (g : List D → R SV) (f : En → R (List D)) : En → R SV := fun ρ => f ρ >>= fun ds => if ds.length = n then g ds else .bad
theorem sem_call {n : Nat} {g : List D → R SV} {t : TA} {f : En → R (List D)} (h : SemA c t f) : SemE c true (tCall (spF c.K c.cm n g) [] c.E t) (callF n g f) := by
  intro B H0 Hf H σ ρ Q I o
  refine h B H0 Hf H σ ρ _ I (Out.bind o fun ds eds o1 => fun vs Hf1 H1 x1 q1 => ?_)
  split at o1
  · rename_i hl
    rw [List.append_nil]
    exact ⟨by rw [dpAll_len q1]; exact hl, c.K.x, Hf1, ds, x1.i, q1, o1.grow x1 fun _ g => g.grow x1⟩
  · exact o1.elim
def scalD : D → Bool := flat
def scalS : SV → Bool
  | .d x => flat x
  | _ => false
/-- what is lent -/
def lookS : SV → R D
  | .d x => .ok x
  | .ol xs => .ok (.list xs)
  | .od _ => .bad
  | .pin xs => .ok (.list xs)
  | .exn _ _ => .bad
  | .pd _ => .bad
theorem lookS_ok {Hf H : Hp} {v : V} {r : SV} {d : D} (i : Same Hf H) (q : RepR c.K Hf H v r) (e : lookS r = .ok d) : Dp c.K H v d := by
  cases r with
  | d y => cases e; exact dp_mono i q
  | ol xs =>
    cases e
    obtain ⟨p, vs, rfl, h1, h2, h3⟩ := q
    exact .lst (.inl (.inl h1)) (dpAll_mono i h3)
  | od kvs => cases e
  | pin xs =>
    cases e
    obtain ⟨p, vs, rfl, h1, h2, h3⟩ := q
    exact .lst (.inl (.inl h1)) (dpAll_mono i h3)
  | exn n as => cases e
  | pd kvs => cases e
def datsS : List SV → R (List D)
  | [] => .ok []
  | a :: r => lookS a >>= fun d => datsS r >>= fun ds => .ok (d :: ds)
theorem datsS_ok {Hf H : Hp} (i : Same Hf H) : ∀ {vs : List V} {rs : List SV} {ds : List D}, RepRs c.K Hf H vs rs → datsS rs = .ok ds → DpAll c.K H vs ds
  | _, _, _, .nil, e => by cases e; exact .nil
  | _, _, _, .cons (r := r) (rs := rs) a b, e => by
    unfold datsS at e
    cases e1 : lookS r with
    | ok d =>
      rw [e1, ok_bind] at e
      cases e2 : datsS rs with
      | ok ds' => rw [e2, ok_bind] at e; cases e; exact .cons (lookS_ok i a e1) (datsS_ok i b e2)
      | bad => rw [e2] at e; cases e
      | ex n as => rw [e2] at e; cases e
    | bad => rw [e1] at e; cases e
    | ex n as => rw [e1] at e; cases e
/-- a call whose arguments may be lists of this frame: its answer holds none of them -/
def callP (n : Nat) (g : List D → R SV) (f : En → R (List SV)) : En → R SV := fun ρ => f ρ >>= fun rs => match datsS rs with
  | .ok ds => if ds.length = n then (match g ds with
      | .ok r => if scalS r = true then .ok r else .bad
      | _ => .bad) else .bad
  | _ => .bad
theorem flat_any {K : PySem.W.Frag} {Hf Hf' : Hp} {v : V} {d : D} (h : Dp K Hf v d) (f : flat d = true) : Dp K Hf' v d := by
  cases h with
  | non => exact .non
  | bl b => exact .bl b
  | int i => exact .int i
  | str x => exact .str x
  | lst _ _ => cases f
  | tup _ _ => cases f
theorem sem_callP {n : Nat} {g : List D → R SV} {t : TA} {f : En → R (List SV)} (h : SemB c t f) : SemE c true (tCall (spF c.K c.cm n g) [] c.E t) (callP n g f) := by
  intro B H0 Hf H σ ρ Q I o
  refine h B H0 Hf H σ ρ _ I (Out.bind o fun rs ers o1 => fun vs Hf1 H1 x1 q1 => ?_)
  cases e1 : datsS rs with
  | bad => simp only [e1] at o1; exact o1.elim
  | ex n as => simp only [e1] at o1; exact o1.elim
  | ok ds =>
    simp only [e1] at o1
    have q2 := datsS_ok (c := c) x1.i q1 e1
    split at o1
    · rename_i hl
      rw [List.append_nil]
      refine ⟨by rw [dpAll_len q2]; exact hl, c.K.x, H1, ds, .refl _, q2, ?_⟩
      cases e2 : g ds with
      | bad => simp only [e2] at o1; exact o1.elim
      | ex n as => simp only [e2] at o1; exact o1.elim
      | ok r =>
        simp only [e2] at o1
        split at o1
        · rename_i hs
          intro v Hf2 H2 x2 q3 _
          cases r with
          | d x => exact GE.now (GE.grow (show GE c true Hf H Q _ from o1) ⟨x1.f, x1.h.trans x2.h, x1.i.trans x2.h, fun p e => (x1.n p e)⟩) (x1.i.trans x2.h) (flat_any q3 hs)
          | ol xs => cases hs
          | od kvs => cases hs
          | pin kvs => cases hs
          | exn n as => cases hs
          | pd kvs => cases hs
        · exact o1.elim
    · exact o1.elim

/-! ### built-ins -/
def C1ok (c : Ct) (r : List V → Hp → VK → Prop) (g : List SV → R SV) : Prop := ∀ Hf H vs rs Q, Same Hf H → RepRs c.K Hf H vs rs → Out c Hf H (g rs) (GE c true Hf H Q) → r vs H Q
def callB (g : List SV → R SV) (f : En → R (List SV)) : En → R SV := fun ρ => f ρ >>= g
theorem sem_callB {r : List V → Hp → VK → Prop} {g : List SV → R SV} {t : TA} {f : En → R (List SV)} (hr : C1ok c r g) (h : SemB c t f) : SemE c true (tCB r t) (callB g f) := by
  intro B H0 Hf H σ ρ Q I o
  refine h B H0 Hf H σ ρ _ I (Out.bind o fun rs ers o1 => fun vs Hf1 H1 x1 q1 => ?_)
  exact hr Hf1 H1 vs rs Q x1.i q1 (o1.grow x1 fun _ g => g.grow x1)
def lenS : List SV → R SV
  | [.d (.list xs)] => .ok (.d (.int xs.length))
  | [.ol xs] => .ok (.d (.int xs.length))
  | [.d (.tuple xs)] => .ok (.d (.int xs.length))
  | [.d (.str z)] => if z.length ≤ sizeLine then .ok (.d (.int z.length)) else .bad
  | _ => .bad
theorem c1_len : C1ok c (fun xs H Q => ∃ x n, xs = [x] ∧ LenV c.K x H n ∧ Q (.int n) H) lenS := by
  intro Hf H vs rs Q i h o
  unfold lenS at o
  split at o
  · cases h with
    | cons a b =>
      cases b
      obtain ⟨p, vs, rfl, h1, h2⟩ := rep_list i a (.inl rfl)
      exact ⟨_, _, rfl, .inl ⟨_, h1, (dpAll_len h2).symm⟩, GE.now o i (.int _)⟩
  · cases h with
    | cons a b =>
      cases b
      obtain ⟨p, vs, rfl, h1, h2⟩ := rep_list i a (.inr rfl)
      exact ⟨_, _, rfl, .inl ⟨_, h1, (dpAll_len h2).symm⟩, GE.now o i (.int _)⟩
  · cases h with
    | cons a b =>
      cases b
      obtain ⟨p, vs, rfl, h1, _, h2⟩ := rep_tup i a
      exact ⟨_, _, rfl, .inr ⟨_, h1, (dpAll_len h2).symm⟩, GE.now o i (.int _)⟩
  · split at o
    · rename_i hz
      cases h with
      | cons a b =>
        cases b
        cases a
        exact ⟨_, _, rfl, ⟨hz, rfl⟩, GE.now o i (.int _)⟩
    · exact o.elim
  · exact o.elim
def intS : List SV → R SV
  | [.d (.int n)] => .ok (.d (.int n))
  | [.d (.bool k)] => .ok (.d (.int (if k then 1 else 0)))
  | _ => .bad
theorem c1_int : C1ok c (fun xs H Q => (∃ i, xs = [.int i] ∧ Q (.int i) H) ∨ ∃ k, xs = [.bl k] ∧ Q (.int (if k then 1 else 0)) H) intS := by
  intro Hf H vs rs Q i h o
  unfold intS at o
  split at o
  · cases h with
    | cons a b => cases b; cases a; exact .inl ⟨_, rfl, GE.now o i (.int _)⟩
  · cases h with
    | cons a b => cases b; cases a; exact .inr ⟨_, rfl, GE.now o i (.int _)⟩
  · exact o.elim
def absS : List SV → R SV
  | [.d (.int n)] => .ok (.d (.int (if n < 0 then -n else n)))
  | _ => .bad
theorem c1_abs : C1ok c (fun xs H Q => ∃ i, xs = [.int i] ∧ Q (.int (if i < 0 then -i else i)) H) absS := by
  intro Hf H vs rs Q i h o
  unfold absS at o
  split at o
  · cases h with
    | cons a b => cases b; cases a; exact ⟨_, rfl, GE.now o i (.int _)⟩
  · exact o.elim
def max2S : List SV → R SV
  | [.d (.int a), .d (.int b)] => .ok (.d (.int (if b > a then b else a)))
  | _ => .bad
theorem c1_max2 : C1ok c (fun xs H Q => ∃ i j, xs = [.int i, .int j] ∧ Q (.int (if j > i then j else i)) H) max2S := by
  intro Hf H vs rs Q i h o
  unfold max2S at o
  split at o
  · cases h with
    | cons a b =>
      cases b with
      | cons b d => cases d; cases a; cases b; exact ⟨_, _, rfl, GE.now o i (.int _)⟩
  · exact o.elim
def min2S : List SV → R SV
  | [.d (.int a), .d (.int b)] => .ok (.d (.int (if b < a then b else a)))
  | _ => .bad
theorem c1_min2 : C1ok c (fun xs H Q => ∃ i j, xs = [.int i, .int j] ∧ Q (.int (if j < i then j else i)) H) min2S := by
  intro Hf H vs rs Q i h o
  unfold min2S at o
  split at o
  · cases h with
    | cons a b =>
      cases b with
      | cons b d => cases d; cases a; cases b; exact ⟨_, _, rfl, GE.now o i (.int _)⟩
  · exact o.elim
def listS : List SV → R SV
  | [.d (.list xs)] => .ok (.ol xs)
  | [.ol xs] => .ok (.ol xs)
  | [.d (.tuple xs)] => .ok (.ol xs)
  | _ => .bad
theorem c1_list : C1ok c (fun xs H Q => ∃ p ys, xs = [.ref p] ∧ (SqL c.K H p ys ∨ SqT c.K H p ys) ∧ ∀ l, H l = none → Q (.ref l) (upd H l (.lst ys))) listS := by
  intro Hf H vs rs Q i h o
  unfold listS at o
  split at o
  · cases h with
    | cons a b =>
      cases b
      obtain ⟨p, vs, rfl, h1, h2⟩ := rep_list i a (.inl rfl)
      exact ⟨_, _, rfl, .inl h1, fun l hl => GE.newL o i hl h2⟩
  · cases h with
    | cons a b =>
      cases b
      obtain ⟨p, vs, rfl, h1, h2⟩ := rep_list i a (.inr rfl)
      exact ⟨_, _, rfl, .inl h1, fun l hl => GE.newL o i hl h2⟩
  · cases h with
    | cons a b =>
      cases b
      obtain ⟨p, vs, rfl, h1, _, h2⟩ := rep_tup i a
      exact ⟨_, _, rfl, .inr h1, fun l hl => GE.newL o i hl h2⟩
  · exact o.elim
def tupS : List SV → R SV
  | [.d (.list xs)] => .ok (.d (.tuple xs))
  | [.ol xs] => .ok (.d (.tuple xs))
  | [.d (.tuple xs)] => .ok (.d (.tuple xs))
  | _ => .bad
theorem c1_tup : C1ok c (fun xs H Q => ∃ p ys, xs = [.ref p] ∧ ((SqL c.K H p ys ∧ ∀ l, H l = none → Q (.ref l) (upd H l (.tup ys))) ∨ (SqT c.K H p ys ∧ Q (.ref p) H))) tupS := by
  intro Hf H vs rs Q i h o
  unfold tupS at o
  split at o
  · cases h with
    | cons a b =>
      cases b
      obtain ⟨p, vs, rfl, h1, h2⟩ := rep_list i a (.inl rfl)
      exact ⟨_, _, rfl, .inl ⟨h1, fun l hl => GE.newT o i hl h2⟩⟩
  · cases h with
    | cons a b =>
      cases b
      obtain ⟨p, vs, rfl, h1, h2⟩ := rep_list i a (.inr rfl)
      exact ⟨_, _, rfl, .inl ⟨h1, fun l hl => GE.newT o i hl h2⟩⟩
  · cases h with
    | cons a b =>
      cases b
      obtain ⟨p, vs, rfl, h1, h1f, h2⟩ := rep_tup i a
      exact ⟨_, _, rfl, .inr ⟨h1, GE.now o i (.tup h1f h2)⟩⟩
  · exact o.elim
/-- isinstance(e, T), T a built-in type by name -/
def tyN : D → String
  | .none => "NoneType" | .bool _ => "bool" | .int _ => "int" | .str _ => "str" | .list _ => "list" | .tuple _ => "tuple" | .dict _ => "dict"
def isi (T : String) (f : En → R SV) : En → R SV := fun ρ => f ρ >>= fun a => datS a >>= fun d => match kitB (tyN d) T with
  | some b => .ok (.d (.bool b))
  | none => .bad
theorem tyX_of {H : Hp} {K : PySem.W.Frag} {v : V} {d : D} (h : Dp K H v d) : TyX K H v (.type (tyN d)) := by
  cases h with
  | non => exact .base .non
  | bl b => exact .base (.bl b)
  | int n => exact .base (.int n)
  | str x => exact .base (.str x)
  | lst h1 _ =>
    rcases h1 with (h1 | ⟨o, h1⟩) | ⟨o, its, n, h1, h2, _⟩
    · exact .base (.lst h1)
    · exact .base (.frz h1)
    · exact .kList h1 h2
  | tup h1 _ =>
    rcases h1 with (h1 | ⟨o, h1⟩) | ⟨o, its, n, h1, h2, _⟩
    · exact .base (.tup h1)
    · exact .fTuple h1
    · exact .kTuple h1 h2
theorem sem_isi {te : TE} {T : String} {f : En → R SV} (h : SemE c false te f) : SemE c true (tCB (rIsi c.K) (tCons te (tCons (tC (.ty T)) tNil))) (isi T f) := by
  intro B H0 Hf H σ ρ Q I o
  refine h B H0 Hf H σ ρ _ I (Out.bind o fun a ea o1 => fun v Hf1 H1 x1 q1 _ => ?_)
  obtain ⟨d, e, o2⟩ := out_dat o1
  split at o2
  · rename_i b eb
    exact ⟨v, .ty T, _, _, b, rfl, .ty T, tyX_of (looked (c := c) x1.i q1 e), kit_ty eb, GE.now (GE.grow (show GE c true Hf H Q _ from o2) x1) x1.i (.bl _)⟩
  · exact o2.elim
def bls : List D → Option (List Bool)
  | [] => some []
  | .bool b :: r => (bls r).map (b :: ·)
  | _ => none
def intsD : List D → Option (List Int)
  | [] => some []
  | .int b :: r => (intsD r).map (b :: ·)
  | _ => none
theorem bls_ok {K : PySem.W.Frag} {H : Hp} : ∀ {vs : List V} {ds : List D} {bs : List Bool}, DpAll K H vs ds → bls ds = some bs → vs = bs.map V.bl
  | _, _, _, .nil, e => by cases e; rfl
  | _, _, _, .cons (ds := r) a b, e => by
    cases a with
    | bl x =>
      unfold bls at e
      cases q : bls r with
      | none => rw [q] at e; cases e
      | some bs' => rw [q] at e; cases e; rw [bls_ok b q]; rfl
    | _ => cases e
theorem ints_ok {K : PySem.W.Frag} {H : Hp} : ∀ {vs : List V} {ds : List D} {bs : List Int}, DpAll K H vs ds → intsD ds = some bs → vs = bs.map V.int
  | _, _, _, .nil, e => by cases e; rfl
  | _, _, _, .cons (ds := r) a b, e => by
    cases a with
    | int x =>
      unfold intsD at e
      cases q : intsD r with
      | none => rw [q] at e; cases e
      | some bs' => rw [q] at e; cases e; rw [ints_ok b q]; rfl
    | _ => cases e
def anyS : List SV → R SV
  | [a] => datL a |> fun x => match x with
    | .ok xs => (match bls xs with | some bs => .ok (.d (.bool (bs.any id))) | none => .bad)
    | _ => .bad
  | _ => .bad
def allS : List SV → R SV
  | [a] => datL a |> fun x => match x with
    | .ok xs => (match bls xs with | some bs => .ok (.d (.bool (bs.all id))) | none => .bad)
    | _ => .bad
  | _ => .bad
theorem datL_ok {Hf H : Hp} {v : V} {r : SV} {xs : List D} (i : Same Hf H) (q : RepR c.K Hf H v r) (e : datL r = .ok xs) : ∃ p vs, v = .ref p ∧ SqL c.K H p vs ∧ DpAll c.K Hf vs xs := by
  unfold datL at e
  split at e
  · cases e; exact rep_list i q (.inl rfl)
  · cases e; exact rep_list i q (.inr rfl)
  · cases e
theorem c1_any : C1ok c (rAny c.K) anyS := by
  intro Hf H vs rs Q i h o
  unfold anyS at o
  split at o
  · dsimp only at o
    split at o
    · rename_i xs e
      split at o
      · rename_i bs eb
        cases h with
        | cons a b =>
          cases b
          obtain ⟨p, vs, rfl, h1, h2⟩ := datL_ok i a e
          rw [bls_ok h2 eb] at h1
          exact ⟨_, _, rfl, h1, GE.now o i (.bl _)⟩
      · exact o.elim
    · exact o.elim
  · exact o.elim
theorem c1_all : C1ok c (rAll c.K) allS := by
  intro Hf H vs rs Q i h o
  unfold allS at o
  split at o
  · dsimp only at o
    split at o
    · rename_i xs e
      split at o
      · rename_i bs eb
        cases h with
        | cons a b =>
          cases b
          obtain ⟨p, vs, rfl, h1, h2⟩ := datL_ok i a e
          rw [bls_ok h2 eb] at h1
          exact ⟨_, _, rfl, h1, GE.now o i (.bl _)⟩
      · exact o.elim
    · exact o.elim
  · exact o.elim
def sumS : List SV → R SV
  | [a] => datL a |> fun x => match x with
    | .ok xs => (match intsD xs with | some bs => .ok (.d (.int bs.sum)) | none => .bad)
    | _ => .bad
  | _ => .bad
theorem c1_sum : C1ok c (rSum c.K) sumS := by
  intro Hf H vs rs Q i h o
  unfold sumS at o
  split at o
  · dsimp only at o
    split at o
    · rename_i xs e
      split at o
      · rename_i bs eb
        cases h with
        | cons a b =>
          cases b
          obtain ⟨p, vs, rfl, h1, h2⟩ := datL_ok i a e
          rw [ints_ok h2 eb] at h1
          exact ⟨_, _, rfl, h1, GE.now o i (.int _)⟩
      · exact o.elim
    · exact o.elim
  · exact o.elim
def maxI : Int → List Int → Int
  | m, [] => m
  | m, x :: r => maxI (if m < x then x else m) r
def minI : Int → List Int → Int
  | m, [] => m
  | m, x :: r => minI (if x < m then x else m) r
theorem maxI_ge : ∀ (r : List Int) (m : Int), m ≤ maxI m r ∧ ∀ y ∈ r, y ≤ maxI m r
  | [], m => ⟨Int.le_refl _, fun _ h => nomatch h⟩
  | x :: r, m => by
    have ih := maxI_ge r (if m < x then x else m)
    unfold maxI
    refine ⟨?_, fun y hy => ?_⟩
    · have := ih.1; split at this <;> rename_i h <;> simp only [h, if_true, if_false] <;> omega
    · rcases List.mem_cons.mp hy with rfl | hy
      · have := ih.1; split at this <;> rename_i h <;> simp only [h, if_true, if_false] <;> omega
      · exact ih.2 y hy
theorem minI_le : ∀ (r : List Int) (m : Int), minI m r ≤ m ∧ ∀ y ∈ r, minI m r ≤ y
  | [], m => ⟨Int.le_refl _, fun _ h => nomatch h⟩
  | x :: r, m => by
    have ih := minI_le r (if x < m then x else m)
    unfold minI
    refine ⟨?_, fun y hy => ?_⟩
    · have := ih.1; split at this <;> rename_i h <;> simp only [h, if_true, if_false] <;> omega
    · rcases List.mem_cons.mp hy with rfl | hy
      · have := ih.1; split at this <;> rename_i h <;> simp only [h, if_true, if_false] <;> omega
      · exact ih.2 y hy
theorem maxI_mem : ∀ (r : List Int) (m : Int), maxI m r = m ∨ maxI m r ∈ r
  | [], m => .inl rfl
  | x :: r, m => by
    have ih := maxI_mem r (if m < x then x else m)
    unfold maxI
    rcases ih with ih | ih
    · split at ih <;> rename_i h <;> simp only [h, if_true, if_false]
      · rw [ih]; exact .inr List.mem_cons_self
      · exact .inl ih
    · exact .inr (List.mem_cons_of_mem _ ih)
theorem minI_mem : ∀ (r : List Int) (m : Int), minI m r = m ∨ minI m r ∈ r
  | [], m => .inl rfl
  | x :: r, m => by
    have ih := minI_mem r (if x < m then x else m)
    unfold minI
    rcases ih with ih | ih
    · split at ih <;> rename_i h <;> simp only [h, if_true, if_false]
      · rw [ih]; exact .inr List.mem_cons_self
      · exact .inl ih
    · exact .inr (List.mem_cons_of_mem _ ih)
def maxS : List SV → R SV
  | [a] => datL a |> fun x => match x with
    | .ok xs => (match intsD xs with | some (b :: r) => .ok (.d (.int (maxI b r))) | _ => .bad)
    | _ => .bad
  | _ => .bad
def minS : List SV → R SV
  | [a] => datL a |> fun x => match x with
    | .ok xs => (match intsD xs with | some (b :: r) => .ok (.d (.int (minI b r))) | _ => .bad)
    | _ => .bad
  | _ => .bad
theorem c1_max : C1ok c (rMax c.K) maxS := by
  intro Hf H vs rs Q i h o
  unfold maxS at o
  split at o
  · dsimp only at o
    split at o
    · rename_i xs e
      split at o
      · rename_i b' r eb
        cases h with
        | cons a b =>
          cases b
          obtain ⟨p, vs, rfl, h1, h2⟩ := datL_ok i a e
          rw [ints_ok h2 eb] at h1
          refine ⟨_, _, rfl, h1, by simp, fun m hm hy => ?_⟩
          have g := maxI_ge r b'
          have e2 : m = maxI b' r := by
            refine Int.le_antisymm ?_ (hy _ ?_)
            · rcases List.mem_cons.mp hm with rfl | hm
              · exact g.1
              · exact g.2 _ hm
            · rcases maxI_mem r b' with z | z
              · rw [z]; exact List.mem_cons_self
              · exact List.mem_cons_of_mem _ z
          subst e2
          exact GE.now o i (.int _)
      · exact o.elim
    · exact o.elim
  · exact o.elim
theorem c1_min : C1ok c (rMin c.K) minS := by
  intro Hf H vs rs Q i h o
  unfold minS at o
  split at o
  · dsimp only at o
    split at o
    · rename_i xs e
      split at o
      · rename_i b' r eb
        cases h with
        | cons a b =>
          cases b
          obtain ⟨p, vs, rfl, h1, h2⟩ := datL_ok i a e
          rw [ints_ok h2 eb] at h1
          refine ⟨_, _, rfl, h1, by simp, fun m hm hy => ?_⟩
          have g := minI_le r b'
          have e2 : m = minI b' r := by
            refine Int.le_antisymm (hy _ ?_) ?_
            · rcases minI_mem r b' with z | z
              · rw [z]; exact List.mem_cons_self
              · exact List.mem_cons_of_mem _ z
            · rcases List.mem_cons.mp hm with rfl | hm
              · exact g.1
              · exact g.2 _ hm
          subst e2
          exact GE.now o i (.int _)
      · exact o.elim
    · exact o.elim
  · exact o.elim
end
end Pl
namespace Pl
open PySem PySem.Spec PyProof.Rows L2
section
variable {c : Ct}

/-! ### rebasing -/
theorem Ext.unbase {B H0 Hf H Hf2 H2 : Hp} (x : Ext B H0 Hf H) (y : Ext Hf H0 Hf2 H2) : Ext B H0 Hf2 H2 :=
  ⟨x.f.trans y.f, y.h, y.i, fun p e => by
    rcases y.n p e with z | z
    · exact x.n p z
    · exact .inr z⟩
theorem Ext.rebase {B H0 Hf H : Hp} (x : Ext B H0 Hf H) : Ext Hf H0 Hf H := ⟨.refl _, x.h, x.i, fun _ e => .inl e⟩
theorem EnvOk.rebase {K : Kx} {B : Bs} {H0 Hf H : Hp} {σ : L2.St} {ρ : En} (I : EnvOk K B H0 Hf H σ ρ) : EnvOk K ⟨Hf, B.fx⟩ H0 Hf H σ ρ := ⟨I.ext.rebase, I.len, I.sl, I.new, I.sep, fun i xs e => by
    obtain ⟨p, o, h1, h2, h3, h4⟩ := I.pin i xs e
    refine ⟨p, o, h1, h2, h3, ?_⟩
    cases q : Hf p with
    | none => exact q
    | some o' =>
      rcases I.ext.n p (by rw [q]; exact fun z => nomatch z) with z | z
      · exact absurd h4 z
      · rw [h3] at z; cases z⟩
theorem EnvOk.unbase {K : Kx} {B : Bs} {H0 Hf H Hf2 H2 : Hp} {σ : L2.St} {ρ : En} (I : EnvOk K ⟨Hf, B.fx⟩ H0 Hf2 H2 σ ρ) (x : Ext B.h H0 Hf H) : EnvOk K B H0 Hf2 H2 σ ρ := ⟨x.unbase I.ext, I.len, I.sl, I.new, I.sep, fun i xs e => by
    obtain ⟨p, o, h1, h2, h3, h4⟩ := I.pin i xs e
    exact ⟨p, o, h1, h2, h3, x.f.free h4⟩⟩
theorem GS.rebase {B : Bs} {H0 Hf H : Hp} {Dn : Ends} {fl : Fl} (g : GS c B H0 Dn fl) (x : Ext B.h H0 Hf H) : GS c ⟨Hf, B.fx⟩ H0 Dn fl := by
  cases fl with
  | nx ρ => exact fun Hf2 H2 σ I => g _ _ _ (I.unbase x)
  | bk ρ => exact fun Hf2 H2 σ I => g _ _ _ (I.unbase x)
  | ct ρ => exact fun Hf2 H2 σ I => g _ _ _ (I.unbase x)
  | rt r => exact fun v Hf2 H2 y => g v _ _ (x.unbase y)
theorem ExW.rebase {B H0 Hf H : Hp} {n : Nat} {as : List D} (h : ExW c B H0 n as) (x : Ext B H0 Hf H) : ExW c Hf H0 n as := fun _ _ od y r => h _ _ od (x.unbase y) r
theorem Out.rebase {B : Bs} {H0 Hf H : Hp} {Dn : Ends} {x : R Fl} (o : Out c B.h H0 x (GS c B H0 Dn)) (e : Ext B.h H0 Hf H) : Out c Hf H0 x (GS c ⟨Hf, B.fx⟩ H0 Dn) := by
  cases x with
  | ok fl => exact GS.rebase (show GS c B H0 Dn fl from o) e
  | ex n as => exact ExW.rebase (show ExW c B.h H0 n as from o) e
  | bad => exact o

/-! ### slots -/
theorem set_get {α : Type} {l : List α} {i j : Nat} {a b : α} (h : (l.set i a)[j]? = some b) : (j = i ∧ a = b ∧ i < l.length) ∨ (j ≠ i ∧ l[j]? = some b) := by
  by_cases e : i = j
  · subst e
    by_cases hl : i < l.length
    · rw [List.getElem?_set_self hl] at h; cases h; exact .inl ⟨rfl, rfl, hl⟩
    · rw [List.getElem?_eq_none (by simpa using hl)] at h; cases h
  · rw [List.getElem?_set_ne e] at h; exact .inr ⟨fun z => e z.symm, h⟩
theorem EnvOk.set {K : Kx} {B : Bs} {H0 Hf H : Hp} {σ : L2.St} {ρ : En} {i : Nat} {v : V} {r : SV} (I : EnvOk K B H0 Hf H σ ρ) (np : r.npin = true) (q : RepR K Hf H v r) (fr : r.own = true → ∀ p, v = .ref p → H0 p = none ∧ ∀ (j : Nat) (s : SV), ρ[j]? = some (some s) → s.own = true → σ[j]? = some (some (.ref p)) → j = i) :
    EnvOk K B H0 Hf H (σ.set i (some v)) (ρ.set i (some r)) := by
  refine ⟨I.ext, by rw [List.length_set, List.length_set, I.len], fun j s e => ?_, fun j s p e o es => ?_, fun j k sj sk p ej oj ek ok e1 e2 => ?_, fun j xs e => ?_⟩
  · rcases set_get e with ⟨rfl, e, hl⟩ | ⟨hj, e⟩
    · cases e
      exact ⟨v, List.getElem?_set_self (by rw [I.len]; exact hl), q⟩
    · rw [List.getElem?_set_ne (Ne.symm hj)]; exact I.sl j s e
  · rcases set_get e with ⟨rfl, e, hl⟩ | ⟨hj, e⟩
    · cases e
      rw [List.getElem?_set_self (by rw [I.len]; exact hl)] at es
      cases es
      exact (fr o p rfl).1
    · rw [List.getElem?_set_ne (Ne.symm hj)] at es; exact I.new j s p e o es
  · rcases set_get ej with ⟨rfl, ej, hl⟩ | ⟨hj, ej⟩
    · cases ej
      rw [List.getElem?_set_self (by rw [I.len]; exact hl)] at e1
      cases e1
      rcases set_get ek with ⟨rfl, _, _⟩ | ⟨hk, ek⟩
      · rfl
      · rw [List.getElem?_set_ne (Ne.symm hk)] at e2
        exact absurd ((fr oj p rfl).2 k sk ek ok e2) hk
    · rw [List.getElem?_set_ne (Ne.symm hj)] at e1
      have ej' := ej
      rcases set_get ek with ⟨rfl, ek, hl⟩ | ⟨hk, ek⟩
      · cases ek
        rw [List.getElem?_set_self (by rw [I.len]; exact hl)] at e2
        cases e2
        exact (fr ok p rfl).2 j sj ej' oj e1
      · rw [List.getElem?_set_ne (Ne.symm hk)] at e2
        exact I.sep j k sj sk p ej oj ek ok e1 e2
  · rcases set_get e with ⟨rfl, e, hl⟩ | ⟨hj, e⟩
    · cases e; cases np
    · rw [List.getElem?_set_ne (Ne.symm hj)]; exact I.pin j xs e
/-- an owned place is tracked: a new place is another one -/
theorem EnvOk.own_at {K : Kx} {B : Bs} {H0 Hf H : Hp} {σ : L2.St} {ρ : En} {j : Nat} {s : SV} {p : Addr} (I : EnvOk K B H0 Hf H σ ρ) (e : ρ[j]? = some (some s)) (o : s.own = true) (es : σ[j]? = some (some (.ref p))) : H p ≠ none := by
  obtain ⟨v, h1, h2⟩ := I.sl j s e
  rw [es] at h1; cases h1
  cases s with
  | d x => cases o
  | ol xs => obtain ⟨q, vs, e, h, _⟩ := h2; cases e; rw [h]; exact fun z => nomatch z
  | od xs => obtain ⟨q, vs, e, h, _⟩ := h2; cases e; rw [h]; exact fun z => nomatch z
  | pin xs => cases o
  | exn n as => cases o
  | pd kvs => cases o
theorem EnvOk.pin_ne {K : Kx} {B : Bs} {H0 Hf H : Hp} {σ : L2.St} {ρ : En} {j : Nat} {ys : List D} {q p : Addr} (I : EnvOk K B H0 Hf H σ ρ) (e : ρ[j]? = some (some (.pin ys))) (es : σ[j]? = some (some (.ref q))) (hp : H0 p = none) : q ≠ p := by
  obtain ⟨q', o, _, h2, h3, _⟩ := I.pin j ys e
  rw [es] at h2; cases h2
  rintro rfl
  rw [hp] at h3; cases h3
theorem EnvOk.set_fresh {K : Kx} {B : Bs} {H0 Hf H Hf' H' : Hp} {σ : L2.St} {ρ : En} {i : Nat} {v : V} {r : SV} (I : EnvOk K B H0 Hf H σ ρ) (np : r.npin = true) (x : Ext Hf H Hf' H') (q : RepR K Hf' H' v r) (fr : r.own = true → ∀ p, v = .ref p → H p = none) :
    EnvOk K B H0 Hf' H' (σ.set i (some v)) (ρ.set i (some r)) :=
  (I.grow x).set np q fun o p e => ⟨I.ext.h.free (fr o p e), fun j s ej oj es => absurd (fr o p e) (I.own_at ej oj es)⟩
theorem EnvOk.drop {K : Kx} {B : Bs} {H0 Hf H : Hp} {σ : L2.St} {ρ : En} (i : Nat) (I : EnvOk K B H0 Hf H σ ρ) : EnvOk K B H0 Hf H σ (ρ.set i none) := by
  have back : ∀ {j : Nat} {s : SV}, (ρ.set i none)[j]? = some (some s) → ρ[j]? = some (some s) := fun {j s} e => by
    rcases set_get e with ⟨_, e, _⟩ | ⟨_, e⟩
    · cases e
    · exact e
  exact ⟨I.ext, by rw [List.length_set, I.len], fun j s e => I.sl j s (back e), fun j s p e => I.new j s p (back e), fun j k sj sk p ej oj ek => I.sep j k sj sk p (back ej) oj (back ek), fun j xs e => I.pin j xs (back e)⟩

/-! ### blocks -/
def seqS (f g : En → R Fl) : En → R Fl := fun ρ => f ρ >>= fun fl => match fl with
  | .nx ρ' => g ρ'
  | z => .ok z
def skip : En → R Fl := fun ρ => .ok (.nx ρ)
theorem sem_skip : SemS c tNext skip := fun B H0 Hf H σ ρ Dn I o => (show GS c B H0 Dn (.nx ρ) from o) _ _ _ I
theorem sem_seq {t u : TS} {f g : En → R Fl} (h1 : SemS c t f) (h2 : SemS c u g) : SemS c (tSeq t u) (seqS f g) := by
  intro B H0 Hf H σ ρ Dn I o
  refine h1 B H0 Hf H σ ρ _ I (Out.bind o fun fl efl o1 => ?_)
  cases fl with
  | nx ρ' => exact fun Hf1 H1 σ1 I1 => h2 B H0 Hf1 H1 σ1 ρ' Dn I1 o1
  | rt r => exact o1
  | bk ρ' => exact o1
  | ct ρ' => exact o1
def ifS (t : En → R Bool) (f g : En → R Fl) : En → R Fl := fun ρ => t ρ >>= fun b => if b = true then f ρ else g ρ
theorem sem_if {t : TT} {u v : TS} {ft : En → R Bool} {f g : En → R Fl} (h : SemT c t ft) (h1 : SemS c u f) (h2 : SemS c v g) : SemS c (tIfS t u v) (ifS ft f g) := by
  intro B H0 Hf H σ ρ Dn I o
  refine h B H0 Hf H σ ρ _ I ((Out.bind o fun a ea o1 => ?_ : Out c B H0 (ft ρ) (GT Hf H fun b H1 => if b = true then u Dn σ H1 else v Dn σ H1)).here I.ext)
  intro Hf1 H1 x1
  cases a with
  | true => exact iteT (h1 B H0 Hf1 H1 σ ρ Dn (I.grow x1) o1)
  | false => exact iteF (h2 B H0 Hf1 H1 σ ρ Dn (I.grow x1) o1)
def retS (f : En → R SV) : En → R Fl := fun ρ => f ρ >>= fun r => .ok (.rt r)
theorem sem_ret {t : TE} {f : En → R SV} (h : SemE c true t f) : SemS c (tRet t) (retS f) := by
  intro B H0 Hf H σ ρ Dn I o
  refine h B H0 Hf H σ ρ _ I ((Out.bind o fun a ea o1 => ?_ : Out c B H0 (f ρ) (GE c true Hf H Dn.rt)).here I.ext)
  intro v Hf1 H1 x1 q1 fr
  exact (show GS c B H0 Dn (.rt a) from o1) v Hf1 H1 (I.ext.trans x1) q1 fun ho p e => I.ext.h.free (fr rfl ho p e)
/-- return x, x a slot (its list goes with it) -/
def retV (i : Nat) : En → R Fl := fun ρ => peek i ρ >>= fun r => .ok (.rt r)
theorem sem_retV {i : Nat} : SemS c (tRet (tVar i)) (retV i) := by
  intro B H0 Hf H σ ρ Dn I o
  unfold retV peek at o
  split at o
  · rename_i r e
    obtain ⟨v, h1, h2⟩ := I.sl i _ e
    refine ⟨v, h1, (show GS c B H0 Dn (.rt r) from o) v Hf H I.ext h2 fun ho p ev => ?_⟩
    subst ev
    exact I.new i r p e ho h1
  · exact o.elim
def retN : En → R Fl := fun ρ => .ok (.rt (.d .none))
theorem sem_retN : SemS c tRetN retN := fun B H0 Hf H σ ρ Dn I o => (show GS c B H0 Dn (.rt (.d .none)) from o) .non Hf H I.ext .non fun z => nomatch z
def brkS : En → R Fl := fun ρ => .ok (.bk ρ)
def cntS : En → R Fl := fun ρ => .ok (.ct ρ)
theorem sem_brk : SemS c tBreak brkS := fun B H0 Hf H σ ρ Dn I o => (show GS c B H0 Dn (.bk ρ) from o) _ _ _ I
theorem sem_cnt : SemS c tCont cntS := fun B H0 Hf H σ ρ Dn I o => (show GS c B H0 Dn (.ct ρ) from o) _ _ _ I
def exprS (f : En → R SV) : En → R Fl := fun ρ => f ρ >>= fun _ => .ok (.nx ρ)
theorem sem_expr {b : Bool} {t : TE} {f : En → R SV} (h : SemE c b t f) : SemS c (tDrop t) (exprS f) := by
  intro B H0 Hf H σ ρ Dn I o
  refine h B H0 Hf H σ ρ _ I ((Out.bind o fun a ea o1 => ?_ : Out c B H0 (f ρ) (GE c b Hf H fun _ H1 => Dn.nx σ H1)).here I.ext)
  intro v Hf1 H1 x1 q1 fr
  exact (show GS c B H0 Dn (.nx ρ) from o1) Hf1 H1 σ (I.grow x1)
/-- x = e -/
def asgS (i : Nat) (f : En → R SV) : En → R Fl := fun ρ => f ρ >>= fun r => if r.npin = true then .ok (.nx (ρ.set i (some r))) else .bad
theorem sem_set {i : Nat} {t : TE} {f : En → R SV} (h : SemE c true t f) : SemS c (tAsg t (gName i)) (asgS i f) := by
  intro B H0 Hf H σ ρ Dn I o
  refine h B H0 Hf H σ ρ _ I ((Out.bind o fun a ea o1 => ?_ : Out c B H0 (f ρ) (GE c true Hf H fun x H1 => gName i x σ H1 Dn.nx)).here I.ext)
  intro v Hf1 H1 x1 q1 fr
  cases np : a.npin with
  | true =>
    rw [np, if_pos rfl] at o1
    exact (show GS c B H0 Dn (.nx (ρ.set i (some a))) from o1) Hf1 H1 _ (I.set_fresh np x1 q1 (fr rfl))
  | false =>
    rw [np, if_neg Bool.false_ne_true] at o1
    exact o1.elim
/-! ### targets -/
def SemG (c : Ct) (is : List Nat) (g : TG) (k : D → En → R En) : Prop := ∀ B H0 Hf H σ ρ v d Q, EnvOk c.K B H0 Hf H σ ρ → Dp c.K Hf v d →
  (∃ ρ', k d ρ = .ok ρ' ∧ ∀ σ', σ'.length = σ.length → (∀ j, j ∉ is → σ'[j]? = σ[j]?) → EnvOk c.K B H0 Hf H σ' ρ' → Q σ' H) → g v σ H Q
def SemGs (c : Ct) (is : List Nat) (g : TGs) (k : List D → En → R En) : Prop := ∀ B H0 Hf H σ ρ vs ds Q, EnvOk c.K B H0 Hf H σ ρ → DpAll c.K Hf vs ds →
  (∃ ρ', k ds ρ = .ok ρ' ∧ ∀ σ', σ'.length = σ.length → (∀ j, j ∉ is → σ'[j]? = σ[j]?) → EnvOk c.K B H0 Hf H σ' ρ' → Q σ' H) → g vs σ H Q
def setD (i : Nat) : D → En → R En := fun d ρ => .ok (ρ.set i (some (.d d)))
theorem sem_gName {i : Nat} : SemG c [i] (gName i) (setD i) := by
  intro B H0 Hf H σ ρ v d Q I q ⟨ρ', e, h⟩
  cases e
  exact h _ (List.length_set ..) (fun j hj => List.getElem?_set_ne (by simpa using Ne.symm (by simpa using hj))) (I.set rfl q fun z => nomatch z)
def gsN : List D → En → R En
  | [], ρ => .ok ρ
  | _, _ => .bad
def gsC (k : D → En → R En) (ks : List D → En → R En) : List D → En → R En
  | d :: ds, ρ => k d ρ >>= ks ds
  | [], _ => .bad
theorem sem_gsN : SemGs c [] gNil gsN := by
  intro B H0 Hf H σ ρ vs ds Q I q ⟨ρ', e, h⟩
  cases q with
  | nil => cases e; exact ⟨rfl, h σ rfl (fun _ _ => rfl) I⟩
  | cons _ _ => cases e
theorem sem_gsC {is js : List Nat} {t : TG} {u : TGs} {k : D → En → R En} {ks : List D → En → R En} (h1 : SemG c is t k) (h2 : SemGs c js u ks) : SemGs c (is ++ js) (gCons t u) (gsC k ks) := by
  intro B H0 Hf H σ ρ vs ds Q I q ⟨ρ', e, h⟩
  cases q with
  | nil => cases e
  | cons a b =>
    unfold gsC at e
    dsimp only at e
    rename_i v vs d ds
    cases e1 : k d ρ with
    | bad => rw [e1] at e; cases e
    | ex n as => rw [e1] at e; cases e
    | ok ρ1 =>
      rw [e1, ok_bind] at e
      refine ⟨_, _, rfl, h1 B H0 Hf H σ ρ _ _ _ I a ⟨ρ1, e1, fun σ1 l1 n1 I1 => ?_⟩⟩
      refine h2 B H0 Hf H σ1 ρ1 _ _ _ I1 b ⟨ρ', e, fun σ2 l2 n2 I2 => h σ2 (l2.trans l1) (fun j hj => ?_) I2⟩
      have hj' : ¬ (j ∈ is ∨ j ∈ js) := fun z => hj (List.mem_append.mpr z)
      rw [n2 j fun z => hj' (.inr z), n1 j fun z => hj' (.inl z)]
/-- (a, b, ..) = a tuple or a list of that length -/
def gSq (K : PySem.W.Frag) (n : Nat) (t : TGs) : TG := fun v σ H Q => gTup K n t v σ H Q ∨ gUnl K n t v σ H Q
theorem pg_sq {X : Cx} {pos : Pos} {es : List Expr} {k : Nat} {t : TGs} {n : Nat} (hc : X.calm = true) (h : PGs X es t)
    (hn : (assignEach es X.env).length = n := by rfl) (hst : (assignEach es X.env).findIdx? (·.1) = none := by rfl) : PG X (.Tuple es k pos) (gSq X.K n t) := by
  refine ⟨fun pins s σ H v u Q I r hw => ?_⟩
  rcases hw with hw | hw
  · exact (pg_tup hc h hn hst).run pins s σ H v u Q I r hw
  · exact (pg_unl hc h hn hst).run pins s σ H v u Q I r hw
def tupG (n : Nat) (ks : List D → En → R En) : D → En → R En
  | .tuple ds, ρ => if ds.length = n then ks ds ρ else .bad
  | .list ds, ρ => if ds.length = n then ks ds ρ else .bad
  | _, _ => .bad
theorem sem_gTup {is : List Nat} {n : Nat} {t : TGs} {ks : List D → En → R En} (h : SemGs c is t ks) : SemG c is (gSq c.K n t) (tupG n ks) := by
  intro B H0 Hf H σ ρ v d Q I q ⟨ρ', e, h'⟩
  unfold tupG at e
  split at e
  · split at e
    · rename_i hl
      cases q with
      | tup h1 h2 => exact .inl ⟨_, _, rfl, sqT_mono I.i h1, by rw [dpAll_len h2]; exact hl, h B H0 Hf H σ ρ _ _ _ I h2 ⟨ρ', e, h'⟩⟩
    · cases e
  · split at e
    · rename_i hl
      obtain ⟨p, vs, rfl, h1, h2⟩ := rep_list (r := .d (.list _)) I.i q (.inl rfl)
      exact .inr ⟨_, _, rfl, h1, by rw [dpAll_len h2]; exact hl, h B H0 Hf H σ ρ _ _ _ I h2 ⟨ρ', e, h'⟩⟩
    · cases e
  · cases e
def asgG (k : D → En → R En) (f : En → R SV) : En → R Fl := fun ρ => f ρ >>= fun r => datS r >>= fun d => match k d ρ with
  | .ok ρ' => .ok (.nx ρ')
  | _ => .bad
theorem sem_asgG {is : List Nat} {t : TE} {g : TG} {k : D → En → R En} {f : En → R SV} (h : SemE c true t f) (hg : SemG c is g k) : SemS c (tAsg t g) (asgG k f) := by
  intro B H0 Hf H σ ρ Dn I o
  refine h B H0 Hf H σ ρ _ I ((Out.bind o fun a ea o1 => ?_ : Out c B H0 (f ρ) (GE c true Hf H fun x H1 => g x σ H1 Dn.nx)).here I.ext)
  intro v Hf1 H1 x1 q1 fr
  obtain ⟨d, e, o2⟩ := out_dat o1
  obtain ⟨Hf2, x2, q2⟩ := froze x1 q1 (fr rfl) e
  cases ek : k d ρ with
  | bad => simp only [ek] at o2; exact o2.elim
  | ex n as => simp only [ek] at o2; exact o2.elim
  | ok ρ' =>
    simp only [ek] at o2
    exact hg B H0 Hf2 H1 σ ρ v d _ (I.grow x2) q2 ⟨ρ', ek, fun σ' _ _ I' => (show GS c B H0 Dn (.nx ρ') from o2) _ _ _ I'⟩

/-! ### ghost steps -/
/-- a list of this frame is handed on for good -/
def frzE (i : Nat) (ρ : En) : En := match ρ[i]? with
  | some (some (.ol xs)) => ρ.set i (some (.d (.list xs)))
  | _ => ρ
theorem EnvOk.frz {K : Kx} {B : Bs} {H0 Hf H : Hp} {σ : L2.St} {ρ : En} (i : Nat) (I : EnvOk K B H0 Hf H σ ρ) : ∃ Hf', EnvOk K B H0 Hf' H σ (frzE i ρ) := by
  unfold frzE
  split
  · rename_i xs e
    obtain ⟨v, h1, p, vs, rfl, h2, h3, h4⟩ := I.sl i _ e
    have hn := I.new i _ p e rfl h1
    have g := upd_grow (o := .lst vs) h3
    have i' : Same (upd Hf p (.lst vs)) H := fun b o eb => by
      by_cases hb : b = p
      · subst hb; rw [upd_same] at eb; cases eb; exact h2
      · rw [upd_ne hb] at eb; exact I.i _ _ eb
    refine ⟨upd Hf p (.lst vs), ⟨I.ext.f.trans g, I.ext.h, i', fun b eb => ?_⟩, by rw [List.length_set, I.len], fun j s ej => ?_, fun j s q ej oj es => ?_, fun j k sj sk q ej oj ek ok e1 e2 => ?_, fun j ys ej => ?_⟩
    · by_cases hb : b = p
      · subst hb; exact .inr hn
      · rw [upd_ne hb] at eb; exact I.ext.n b eb
    · rcases set_get ej with ⟨rfl, ej, _⟩ | ⟨hj, ej⟩
      · cases ej
        exact ⟨_, h1, .lst (.inl (.inl upd_same)) (dpAll_mono g h4)⟩
      · obtain ⟨v, w1, w2⟩ := I.sl j s ej
        refine ⟨v, w1, ?_⟩
        cases s with
        | d x => exact dp_mono g w2
        | ol ys =>
          obtain ⟨q, us, rfl, u1, u2, u3⟩ := w2
          have hq : q ≠ p := fun z => hj (I.sep j i _ _ p ej rfl e rfl (z ▸ w1) h1)
          exact ⟨q, us, rfl, u1, by rw [upd_ne hq]; exact u2, dpAll_mono g u3⟩
        | od ys =>
          obtain ⟨q, us, rfl, u1, u2, u3⟩ := w2
          have hq : q ≠ p := fun z => hj (I.sep j i _ _ p ej rfl e rfl (z ▸ w1) h1)
          exact ⟨q, us, rfl, u1, by rw [upd_ne hq]; exact u2, Paired.mapP u3 fun _ _ q => ⟨q.1, dp_mono g q.2⟩⟩
        | pin ys =>
          obtain ⟨q, us, rfl, u1, u2, u3⟩ := w2
          have hq : q ≠ p := I.pin_ne ej w1 hn
          exact ⟨q, us, rfl, u1, by rw [upd_ne hq]; exact u2, dpAll_mono g u3⟩
        | exn n as => exact ⟨w2.1, w2.2.1, w2.2.2.thaw g⟩
        | pd ys =>
          obtain ⟨q, us, o', rfl, u1, u3⟩ := w2
          have hq : q ≠ p := fun z => by rw [z, h3] at u1; cases u1
          exact ⟨q, us, o', rfl, by rw [upd_ne hq]; exact u1, Paired.mapP u3 fun _ _ q => ⟨q.1, dp_mono g q.2⟩⟩
    · rcases set_get ej with ⟨_, ej, _⟩ | ⟨_, ej⟩
      · cases ej; cases oj
      · exact I.new j s q ej oj es
    · rcases set_get ej with ⟨_, ej, _⟩ | ⟨_, ej⟩
      · cases ej; cases oj
      · rcases set_get ek with ⟨_, ek, _⟩ | ⟨_, ek⟩
        · cases ek; cases ok
        · exact I.sep j k sj sk q ej oj ek ok e1 e2
    · rcases set_get ej with ⟨_, ej, _⟩ | ⟨_, ej⟩
      · cases ej
      · exact I.pin j ys ej
  · exact ⟨Hf, I⟩
def frzS (is : List Nat) (f : En → R Fl) : En → R Fl := fun ρ => f (is.foldl (fun ρ i => frzE i ρ) ρ)
theorem EnvOk.frzs {K : Kx} {B : Bs} {H0 H : Hp} {σ : L2.St} : ∀ (is : List Nat) {Hf : Hp} {ρ : En}, EnvOk K B H0 Hf H σ ρ → ∃ Hf', EnvOk K B H0 Hf' H σ (is.foldl (fun ρ i => frzE i ρ) ρ)
  | [], _, _, I => ⟨_, I⟩
  | i :: is, _, _, I => by
    obtain ⟨_, I'⟩ := I.frz i
    exact EnvOk.frzs is I'
theorem sem_frz {is : List Nat} {t : TS} {f : En → R Fl} (h : SemS c t f) : SemS c t (frzS is f) := by
  intro B H0 Hf H σ ρ Dn I o
  obtain ⟨Hf', I'⟩ := I.frzs is
  exact h B H0 Hf' H σ _ Dn I' o
def killE (is : List Nat) (ρ : En) : En := is.foldl (fun ρ i => ρ.set i none) ρ
theorem EnvOk.kill {K : Kx} {B : Bs} {H0 Hf H : Hp} {σ : L2.St} : ∀ (is : List Nat) {ρ : En}, EnvOk K B H0 Hf H σ ρ → EnvOk K B H0 Hf H σ (killE is ρ)
  | [], _, I => I
  | i :: is, _, I => EnvOk.kill is (I.drop i)
def kill (is : List Nat) (f : En → R Fl) : En → R Fl := fun ρ => f ρ >>= fun fl => match fl with
  | .nx ρ' => .ok (.nx (killE is ρ'))
  | .ct ρ' => .ok (.ct (killE is ρ'))
  | .bk ρ' => .ok (.bk (killE is ρ'))
  | z => .ok z
theorem sem_kill {is : List Nat} {t : TS} {f : En → R Fl} (h : SemS c t f) : SemS c t (kill is f) := by
  intro B H0 Hf H σ ρ Dn I o
  refine h B H0 Hf H σ ρ Dn I (Out.bind o fun fl efl o1 => ?_)
  cases fl with
  | nx ρ' => exact fun Hf1 H1 σ1 I1 => (show GS c B H0 Dn (.nx (killE is ρ')) from o1) _ _ _ (I1.kill is)
  | ct ρ' => exact fun Hf1 H1 σ1 I1 => (show GS c B H0 Dn (.ct (killE is ρ')) from o1) _ _ _ (I1.kill is)
  | bk ρ' => exact fun Hf1 H1 σ1 I1 => (show GS c B H0 Dn (.bk (killE is ρ')) from o1) _ _ _ (I1.kill is)
  | rt r => exact o1

/-! ### while -/
def whileF (n : Nat) (t : En → R Bool) (b : En → R Fl) (ρ : En) : R Fl := match n with
  | 0 => .bad
  | n + 1 => t ρ >>= fun k => if k = true then b ρ >>= fun fl => match fl with
      | .nx ρ' => whileF n t b ρ'
      | .ct ρ' => whileF n t b ρ'
      | .bk ρ' => .ok (.nx ρ')
      | .rt r => .ok (.rt r)
    else .ok (.nx ρ)
def whileS (μ : En → Nat) (t : En → R Bool) (b : En → R Fl) : En → R Fl := fun ρ => whileF (μ ρ) t b ρ
theorem sem_while {μ : En → Nat} {tc : TT} {tb : TS} {t : En → R Bool} {b : En → R Fl} (ht : SemT c tc t) (hb : SemS c tb b) : SemS c (tWhile tc tb) (whileS μ t b) := by
  intro B H0 Hf H σ ρ Dn I o
  refine ⟨fun m σ H => ∃ Hf ρ, EnvOk c.K B H0 Hf H σ ρ ∧ Out c B H0 (whileF m t b ρ) (GS c B H0 Dn), ⟨μ ρ, Hf, ρ, I, o⟩, ?_⟩
  rintro m σ H ⟨Hf, ρ, I, o⟩
  cases m with
  | zero => exact o.elim
  | succ m =>
    unfold whileF at o
    refine ht B H0 Hf H σ ρ _ I ((Out.bind o fun k ek o1 => ?_ : Out c B H0 (t ρ) (GT Hf H _)).here I.ext)
    intro Hf1 H1 x1
    cases k with
    | false => exact iteF ((show GS c B H0 Dn (.nx ρ) from o1) _ _ _ (I.grow x1))
    | true =>
      refine iteT ⟨fun σ' H' => ∃ Hf ρ, EnvOk c.K B H0 Hf H' σ' ρ ∧ Out c B H0 (whileF m t b ρ) (GS c B H0 Dn), fun σ' H' h => ⟨m, Nat.lt_succ_self _, h⟩, ?_⟩
      refine hb B H0 Hf1 H1 σ ρ _ (I.grow x1) (Out.bind o1 fun fl efl o2 => ?_)
      cases fl with
      | nx ρ' => exact fun Hf2 H2 σ2 I2 => ⟨Hf2, ρ', I2, o2⟩
      | ct ρ' => exact fun Hf2 H2 σ2 I2 => ⟨Hf2, ρ', I2, o2⟩
      | bk ρ' => exact fun Hf2 H2 σ2 I2 => (show GS c B H0 Dn (.nx ρ') from o2) _ _ _ I2
      | rt r => exact o2

/-! ### what is walked -/
def Walks (K : PySem.W.Frag) (J : It) (Hf : Hp) (xs : List D) : Prop := ∃ Y, Walk J xs.length (fun H => Same Hf H) Y ∧
  ∀ i H x H' Hfi, i < xs.length → Same Hf Hfi → Same Hfi H → Y i H x H' → ∃ d Hf', xs[i]? = some d ∧ Ext Hfi H Hf' H' ∧ Dp K Hf' x d
def SemI (c : Ct) (wi : TI) (f : En → R (List D)) : Prop := ∀ B H0 Hf H σ ρ Rr, EnvOk c.K B H0 Hf H σ ρ → Out c Hf H (f ρ) (fun xs => ∀ J Hf' H', Ext Hf H Hf' H' → Walks c.K J Hf' xs → Rr J H') → wi σ H Rr
theorem walks_at {K : PySem.W.Frag} {J : It} {Hf : Hp} {vs : List V} {xs : List D} (h : DpAll K Hf vs xs) (w : Walk J vs.length (fun H => Same Hf H) (YAt vs)) : Walks K J Hf xs := by
  refine ⟨YAt vs, by rw [← dpAll_len h]; exact w, fun i H x H' Hfi hi s1 s2 y => ?_⟩
  obtain ⟨rfl, e⟩ := y
  obtain ⟨d, e1, e2⟩ := dpAll_getV h e
  exact ⟨d, Hfi, e1, .refl s2, dp_mono s1 e2⟩
def seqD (f : En → R SV) : En → R (List D) := fun ρ => f ρ >>= fun a => match a with
  | .d (.list xs) => .ok xs
  | .ol xs => .ok xs
  | .d (.tuple xs) => .ok xs
  | .d (.str z) => .ok (z.cps.toList.map fun n => .str ⟨#[n]⟩)
  | _ => .bad
theorem PI.or {X : Cx} {tg l : Expr} {w1 w2 : TI} (h1 : PI X tg l w1) (h2 : PI X tg l w2) : PI X tg l (fun σ H Rr => w1 σ H Rr ∨ w2 σ H Rr) := ⟨fun pins s σ H Rr I q => q.elim (h1.run pins s σ H Rr I) (h2.run pins s σ H Rr I)⟩
abbrev iSeq (K : PySem.W.Frag) (te : TE) : TI := fun σ H Rr => iList K te σ H Rr ∨ (iTup K te σ H Rr ∨ iStr te σ H Rr)
theorem pi_seq {X : Cx} {tg l : Expr} {te : TE} (h : PE X l te) : PI X tg l (iSeq X.K te) := Pl.PI.or (pi_list h) (Pl.PI.or (pi_tup h) (pi_str h))
theorem sem_seqI {te : TE} {f : En → R SV} (h : SemE c true te f) : SemI c (iSeq c.K te) (seqD f) := by
  intro B H0 Hf H σ ρ Rr I o
  have lists : ∀ (r : SV) (xs : List D), (r = .d (.list xs) ∨ r = .ol xs) → f ρ = .ok r → (∀ J Hf' H', Ext Hf H Hf' H' → Walks c.K J Hf' xs → Rr J H') → iSeq c.K te σ H Rr := by
    intro r xs er ef k
    refine .inl (h B H0 Hf H σ ρ _ I ?_)
    rw [ef]
    intro v Hf1 H1 x1 q1 fr
    obtain ⟨Hf2, x2, q2⟩ := froze (d := .list xs) x1 q1 (fr rfl) (by rcases er with rfl | rfl <;> rfl)
    cases q2 with
    | lst s1 s2 => exact ⟨_, rfl, ⟨_, x2.i.seq s1⟩, k _ Hf2 H1 x2 (walks_at s2 (walk_list.mono (fun H e => e.seq s1) fun _ _ _ _ _ _ y => y))⟩
  unfold seqD at o
  cases ef : f ρ with
  | bad => rw [ef] at o; exact o.elim
  | ex n as =>
    rw [ef] at o
    refine .inl (h B H0 Hf H σ ρ _ I ?_)
    rw [ef]; exact o
  | ok r =>
    rw [ef, ok_bind] at o
    split at o
    · exact lists _ _ (.inl rfl) ef o
    · exact lists _ _ (.inr rfl) ef o
    · refine .inr (.inl (h B H0 Hf H σ ρ _ I ?_))
      rw [ef]
      intro v Hf1 H1 x1 q1 fr
      cases q1 with
      | tup s1 s2 => exact ⟨_, rfl, ⟨_, sqT_mono x1.i s1⟩, (show ∀ J Hf' H', Ext Hf H Hf' H' → Walks c.K J Hf' _ → Rr J H' from o) _ Hf1 H1 x1 (walks_at s2 (walk_tup.mono (fun H e => sqT_mono e s1) fun _ _ _ _ _ _ y => y))⟩
    · rename_i z
      refine .inr (.inr (h B H0 Hf H σ ρ _ I ?_))
      rw [ef]
      intro v Hf1 H1 x1 q1 fr
      cases q1 with
      | str _ =>
        refine ⟨_, rfl, (show ∀ J Hf' H', Ext Hf H Hf' H' → Walks c.K J Hf' _ → Rr J H' from o) _ Hf1 H1 x1 ⟨fun i H v H' => H' = H ∧ ∃ c, z.cps[i]? = some c ∧ v = .str ⟨#[c]⟩, ?_, fun i H2 x H' Hfi hi s1 s2 y => ?_⟩⟩
        · have w := @walk_str z
          rw [List.length_map, Array.length_toList]
          exact w.mono (Y' := fun i H v H' => H' = H ∧ ∃ c, z.cps[i]? = some c ∧ v = .str ⟨#[c]⟩) (fun _ _ => trivial) fun _ _ _ _ _ _ y => y
        · obtain ⟨rfl, n, e1, rfl⟩ := y
          exact ⟨.str ⟨#[n]⟩, Hfi, by rw [List.getElem?_map, Array.getElem?_toList, e1] <;> rfl, .refl s2, .str _⟩
    · exact o.elim
def rng (lo hi : Int) : List D := (List.range (hi - lo).toNat).map fun k => .int (lo + (k : Nat))
def okR (j : Int) : Bool := Nat.blt j.natAbs 4611686018427387904
theorem okR_of {j : Int} (h0 : -1000000000000 ≤ j) (h1 : j ≤ 1000000000000) : okR j = true := by
  unfold okR Nat.blt
  rw [Nat.ble_eq]; omega
theorem okR_ok {j : Int} (h : okR j = true) : -(2 ^ 62) ≤ j ∧ j < 2 ^ 62 := by
  unfold okR Nat.blt at h
  rw [Nat.ble_eq] at h
  omega
def rngD1 (f : En → R (List SV)) : En → R (List D) := fun ρ => f ρ >>= fun a => match a with
  | [.d (.int j)] => if okR j = true then .ok (rng 0 j) else .bad
  | _ => .bad
def rngD2 (f : En → R (List SV)) : En → R (List D) := fun ρ => f ρ >>= fun a => match a with
  | [.d (.int i), .d (.int j)] => if okR i = true ∧ okR j = true then .ok (rng i j) else .bad
  | _ => .bad
theorem walks_rng {K : PySem.W.Frag} {Hf : Hp} {lo hi : Int} : Walks K (Itr lo (hi - lo).toNat) Hf (rng lo hi) := by
  refine ⟨YFn fun i => .int (lo + i), ?_, fun i H x H' Hfi hl s1 s2 y => ?_⟩
  · have w := @walk_range lo (hi - lo).toNat
    unfold rng
    rw [List.length_map, List.length_range]
    exact w.mono (fun _ _ => trivial) fun _ _ _ _ _ _ y => y
  · obtain ⟨rfl, rfl⟩ := y
    unfold rng at hl ⊢
    rw [List.length_map] at hl
    refine ⟨.int (lo + (i : Nat)), Hfi, ?_, .refl s2, .int _⟩
    rw [List.getElem?_map, List.getElem?_range (by simpa using hl)] <;> rfl
theorem sem_rng1 {t : TA} {f : En → R (List SV)} (h : SemB c t f) : SemI c (iRng1 t) (rngD1 f) := by
  intro B H0 Hf H σ ρ Rr I o
  refine h B H0 Hf H σ ρ _ I (Out.bind o fun rs ers o1 => fun vs Hf1 H1 x1 q1 => ?_)
  split at o1
  · rename_i j
    split at o1
    · rename_i hj
      cases q1 with
      | cons a b =>
        cases b; cases a
        refine ⟨_, rfl, (okR_ok hj).1, (okR_ok hj).2, (show ∀ J Hf' H', Ext Hf H Hf' H' → Walks c.K J Hf' _ → Rr J H' from o1) _ Hf1 H1 x1 ?_⟩
        have w := @walks_rng c.K Hf1 0 j
        rw [show (j - 0).toNat = j.toNat by simp] at w
        exact w
    · exact o1.elim
  · exact o1.elim
theorem sem_rng2 {t : TA} {f : En → R (List SV)} (h : SemB c t f) : SemI c (iRng2 t) (rngD2 f) := by
  intro B H0 Hf H σ ρ Rr I o
  refine h B H0 Hf H σ ρ _ I (Out.bind o fun rs ers o1 => fun vs Hf1 H1 x1 q1 => ?_)
  split at o1
  · split at o1
    · rename_i hj
      cases q1 with
      | cons a b =>
        cases b with
        | cons b d =>
          cases d; cases a; cases b
          exact ⟨_, _, rfl, ⟨(okR_ok hj.1).1, (okR_ok hj.1).2, (okR_ok hj.2).1, (okR_ok hj.2).2⟩, (show ∀ J Hf' H', Ext Hf H Hf' H' → Walks c.K J Hf' _ → Rr J H' from o1) _ Hf1 H1 x1 walks_rng⟩
    · exact o1.elim
  · exact o1.elim

/-! ### for -/
def forF (k : D → En → R En) (b : En → R Fl) : List D → En → R Fl
  | [], ρ => .ok (.nx ρ)
  | x :: xs, ρ => match k x ρ with
    | .ok ρ1 => b ρ1 >>= fun fl => match fl with
      | .nx ρ2 => forF k b xs ρ2
      | .ct ρ2 => forF k b xs ρ2
      | .bk ρ2 => .ok (.nx ρ2)
      | .rt r => .ok (.rt r)
    | _ => .bad
def forS (fi : En → R (List D)) (k : D → En → R En) (b : En → R Fl) : En → R Fl := fun ρ => fi ρ >>= fun xs => forF k b xs ρ
theorem sem_for {is : List Nat} {wi : TI} {g : TG} {tb : TS} {fi : En → R (List D)} {k : D → En → R En} {b : En → R Fl} (hi : SemI c wi fi) (hg : SemG c is g k) (hb : SemS c tb b) : SemS c (tFor wi g tb) (forS fi k b) := by
  intro B H0 Hf H σ ρ Dn I o
  unfold forS at o
  refine hi B H0 Hf H σ ρ _ I ((Out.bind o fun xs exs o1 => ?_ : Out c B H0 (fi ρ) _).here I.ext)
  intro J Hf1 H1 x1 ⟨Y, w, hy⟩
  have I1 := I.grow x1
  refine for_it w (fun i σ H => i ≤ xs.length ∧ ∃ Hfi ρ, Same Hf1 Hfi ∧ EnvOk c.K B H0 Hfi H σ ρ ∧ Out c B H0 (forF k b (xs.drop i) ρ) (GS c B H0 Dn)) ⟨Nat.zero_le _, Hf1, ρ, .refl _, I1, o1⟩ (fun i σ H _ ⟨_, Hfi, ρ, s, I, _⟩ => s.trans I.i) ?_ ?_
  · rintro i x σ H H' hlt ⟨_, Hfi, ρ, s, I, o⟩ y
    obtain ⟨d, Hf', e1, x2, q⟩ := hy i H x H' Hfi hlt s I.i y
    have ed : xs.drop i = d :: xs.drop (i + 1) := by
      rw [List.drop_eq_getElem_cons hlt]
      rw [List.getElem?_eq_getElem hlt] at e1
      cases e1; rfl
    rw [ed] at o
    unfold forF at o
    have I2 := I.grow x2
    cases ek : k d ρ with
    | bad => simp only [ek] at o; exact o.elim
    | ex n as => simp only [ek] at o; exact o.elim
    | ok ρ1 =>
      simp only [ek] at o
      refine hg B H0 Hf' H' σ ρ x d _ I2 q ⟨ρ1, ek, fun σ1 _ _ I3 => ?_⟩
      have s' : Same Hf1 Hf' := s.trans x2.f
      have xb : Ext B.h H0 Hf' H' := I2.ext
      refine hb ⟨Hf', B.fx⟩ H0 Hf' H' σ1 ρ1 _ I3.rebase ?_
      cases eb : b ρ1 with
      | bad => rw [eb] at o; exact o.elim
      | ex n as => rw [eb] at o; exact ExW.rebase (show ExW c B.h H0 n as from o) xb
      | ok fl =>
        rw [eb] at o
        cases fl with
        | nx ρ2 => exact fun Hf2 H2 σ2 J2 => ⟨hlt, Hf2, ρ2, s'.trans J2.ext.f, J2.unbase xb, o⟩
        | ct ρ2 => exact fun Hf2 H2 σ2 J2 => ⟨hlt, Hf2, ρ2, s'.trans J2.ext.f, J2.unbase xb, o⟩
        | bk ρ2 => exact fun Hf2 H2 σ2 J2 => (show GS c B H0 Dn (.nx ρ2) from o) _ _ _ (J2.unbase xb)
        | rt r => exact GS.rebase (show GS c B H0 Dn (.rt r) from o) xb
  · rintro σ H ⟨_, Hfi, ρ, s, I, o⟩
    rw [List.drop_length] at o
    exact (show GS c B H0 Dn (.nx ρ) from o) _ _ _ I

/-! ### comprehensions -/
def wipeE (ρ : En) : List Nat → En
  | [] => ρ
  | v :: vs => (wipeE ρ vs).set v none
theorem wipeE_len (ρ : En) : ∀ vs : List Nat, (wipeE ρ vs).length = ρ.length
  | [] => rfl
  | v :: vs => by unfold wipeE; rw [List.length_set, wipeE_len ρ vs]
theorem wipeE_some {ρ : En} {i : Nat} {x : SV} : ∀ {vs : List Nat}, (wipeE ρ vs)[i]? = some (some x) → ρ[i]? = some (some x) ∧ i ∉ vs
  | [], h => ⟨h, by simp⟩
  | v :: vs, h => by
    unfold wipeE at h
    rcases set_get h with ⟨_, h, _⟩ | ⟨hi, h⟩
    · cases h
    · obtain ⟨h1, h2⟩ := wipeE_some h
      exact ⟨h1, by simp only [List.mem_cons, not_or]; exact ⟨hi, h2⟩⟩
theorem wipe_at (σ : L2.St) {i : Nat} : ∀ {vs : List Nat}, i ∉ vs → (wipe σ vs)[i]? = σ[i]?
  | [], _ => rfl
  | v :: vs, h => by
    simp only [List.mem_cons, not_or] at h
    unfold wipe
    rw [List.getElem?_set_ne (Ne.symm h.1), wipe_at σ h.2]
theorem wipe_in (σ : L2.St) {i : Nat} : ∀ {vs : List Nat}, i ∈ vs → (wipe σ vs)[i]? = if i < σ.length then some none else none
  | v :: vs, h => by
    unfold wipe
    by_cases e : v = i
    · subst e
      by_cases hl : v < σ.length
      · rw [List.getElem?_set_self (by rw [wipe_length]; exact hl), if_pos hl]
      · rw [if_neg hl, List.getElem?_eq_none (by rw [List.length_set, wipe_length]; omega)]
    · rw [List.getElem?_set_ne e]
      exact wipe_in σ ((List.mem_cons.mp h).elim (fun z => absurd z.symm e) id)
theorem EnvOk.wipe {K : Kx} {B : Bs} {H0 Hf H : Hp} {σ : L2.St} {ρ : En} (vs : List Nat) (I : EnvOk K B H0 Hf H σ ρ) : EnvOk K B H0 Hf H (L2.wipe σ vs) (wipeE ρ vs) :=
  ⟨I.ext, by rw [wipe_length, wipeE_len, I.len], fun j s e => by
      obtain ⟨h1, h2⟩ := wipeE_some e
      rw [wipe_at σ h2]; exact I.sl j s h1,
    fun j s p e o es => by
      obtain ⟨h1, h2⟩ := wipeE_some e
      rw [wipe_at σ h2] at es; exact I.new j s p h1 o es,
    fun j k sj sk p ej oj ek ok e1 e2 => by
      obtain ⟨h1, h2⟩ := wipeE_some ej
      obtain ⟨h3, h4⟩ := wipeE_some ek
      rw [wipe_at σ h2] at e1
      rw [wipe_at σ h4] at e2
      exact I.sep j k sj sk p h1 oj h3 ok e1 e2,
    fun j xs e => by
      obtain ⟨h1, h2⟩ := wipeE_some e
      rw [wipe_at σ h2]; exact I.pin j xs h1⟩
theorem wipe_back {σ σ2 : L2.St} {is vs : List Nat} (hl : σ2.length = (wipe σ vs).length) (h : ∀ j, j ∉ is → σ2[j]? = (wipe σ vs)[j]?) (hs : ∀ i ∈ is, i ∈ vs) : wipe σ2 vs = wipe σ vs := by
  apply List.ext_getElem?
  intro j
  by_cases hj : j ∈ vs
  · rw [wipe_in σ2 hj, wipe_in σ hj, hl, wipe_length]
  · rw [wipe_at σ2 hj, h j (fun z => hj (hs j z))]
def lcF (k : D → En → R En) (t : En → R Bool) (e : En → R SV) (ρ0 : En) : List D → R (List D)
  | [] => .ok []
  | x :: xs => match k x ρ0 with
    | .ok ρ1 => t ρ1 >>= fun b => if b = true then e ρ1 >>= fun r => datS r >>= fun y => lcF k t e ρ0 xs >>= fun ys => .ok (y :: ys) else lcF k t e ρ0 xs
    | _ => .bad
def lcE (fi : En → R (List D)) (k : D → En → R En) (t : En → R Bool) (e : En → R SV) (vs : List Nat) : En → R SV := fun ρ => fi ρ >>= fun xs => if xs.length < sizeLine then lcF k t e (wipeE ρ vs) xs >>= fun ys => .ok (.ol ys) else .bad
def yesT : En → R Bool := fun _ => .ok true
theorem sem_yes : SemT c tYes yesT := fun B H0 Hf H σ ρ Q I o => (show GT Hf H Q true from o) _ _ (.refl I.i)
theorem sem_lc {is : List Nat} {wi : TI} {g : TG} {tt : TT} {te : TE} {vs : List Nat} {fi : En → R (List D)} {k : D → En → R En} {t : En → R Bool} {e : En → R SV} (hi : SemI c wi fi) (hg : SemG c is g k) (ht : SemT c tt t) (he : SemE c true te e) (hs : ∀ i ∈ is, i ∈ vs) :
    SemE c true (tLc wi g tt te vs) (lcE fi k t e vs) := by
  intro B H0 Hf H σ ρ Q I o
  unfold lcE at o
  refine hi B H0 Hf H σ ρ _ I (Out.bind o fun xs exs o1 => ?_)
  intro J Hf1 H1 x1 ⟨Y, w, hy⟩ Dd hD
  split at o1
  rotate_left
  · exact o1.elim
  rename_i hlen
  have I1 := I.grow x1
  have W := I1.wipe vs
  have hDf : Hf1 Dd = none := I1.i.free hD
  have g0 : Same H1 (upd H1 Dd (.lst [])) := upd_grow hD
  refine lc_it w (fun i H2 => i ≤ xs.length ∧ ∃ Hfi acc ds, Ext Hf1 H1 Hfi H2 ∧ H2 Dd = some (.lst acc) ∧ Hfi Dd = none ∧ DpAll c.K Hfi acc ds ∧ ds.length ≤ i ∧
    Out c Hf H (lcF k t e (wipeE ρ vs) (xs.drop i)) (fun ys => GE c true Hf H Q (.ol (ds ++ ys)))) ⟨Nat.zero_le _, Hf1, [], [], .fresh x1.i hD, upd_same, hDf, .nil, Nat.zero_le _, ?_⟩ (fun i H2 _ ⟨_, Hfi, acc, ds, x2, _⟩ => x2.f.trans x2.i) ?_ ?_
  · rw [List.drop_zero]
    refine Out.bind o1 fun ys _ o2 => ?_
    rw [List.nil_append]; exact o2
  · rintro i x H2 H' hlt ⟨_, Hfi, acc, ds, x2, hacc, hfd, hds, hlen2, o2⟩ y
    obtain ⟨d, Hf', e1, x3, q⟩ := hy i H2 x H' Hfi hlt x2.f x2.i y
    have ed : xs.drop i = d :: xs.drop (i + 1) := by
      rw [List.drop_eq_getElem_cons hlt]
      rw [List.getElem?_eq_getElem hlt] at e1
      cases e1; rfl
    rw [ed] at o2
    unfold lcF at o2
    have x4 := x2.trans x3
    have X4 := x1.trans x4
    cases ek : k d (wipeE ρ vs) with
    | bad => simp only [ek] at o2; exact o2.elim
    | ex n as => simp only [ek] at o2; exact o2.elim
    | ok ρ1 =>
      simp only [ek] at o2
      refine hg B H0 Hf' H' (wipe σ vs) (wipeE ρ vs) x d _ (W.grow x4) q ⟨ρ1, ek, fun σ2 l2 n2 I2 => ⟨wipe_back l2 n2 hs, ?_⟩⟩
      refine ht B H0 Hf' H' σ2 ρ1 _ I2 (Out.bind (o2.grow X4 fun _ z => z) fun b eb o3 => ?_)
      intro Hf5 H5 x5
      have hacc' := x3.h _ _ hacc
      cases b with
      | false =>
        refine iteF ⟨hlt, Hf5, acc, ds, x4.trans x5, x5.h _ _ hacc', x5.still hacc' (x3.still hacc hfd), dpAll_mono (x3.f.trans x5.f) hds, by omega, ?_⟩
        have o4 : Out c Hf' H' (lcF k t e (wipeE ρ vs) (xs.drop (i + 1))) (fun ys => GE c true Hf H Q (.ol (ds ++ ys))) := o3
        cases el : lcF k t e (wipeE ρ vs) (xs.drop (i + 1)) with
        | ok ys => rw [el] at o4; exact o4
        | bad => rw [el] at o4; exact o4
        | ex n as => simp only [el, eb, ok_bind, Bool.false_eq_true, if_false] at o2; exact o2
      | true =>
        refine iteT (he B H0 Hf5 H5 σ2 ρ1 _ (I2.grow x5) (Out.bind (o3.grow x5 fun _ z => z) fun r er o4 => ?_))
        intro v Hf6 H6 x6 q6 fr
        obtain ⟨y', ey, o5⟩ := out_dat o4
        obtain ⟨Hf7, x7, q7⟩ := froze x6 q6 (fr rfl) ey
        have hacc5 := x5.h _ _ hacc'
        have hacc6 := x7.h _ _ hacc5
        have hfd7 : Hf7 Dd = none := x7.still hacc5 (x5.still hacc' (x3.still hacc hfd))
        have X7 := (x4.trans x5).trans x7
        refine ⟨acc, hacc6, ?_, hlt, Hf7, acc ++ [v], ds ++ [y'], ⟨X7.f, fun b o e => ?_, fun b o e => ?_, X7.n⟩, upd_same, hfd7, dpAll_append (dpAll_mono ((x3.f.trans x5.f).trans x7.f) hds) (.cons q7 .nil), ?_, ?_⟩
        · rw [dpAll_len hds]; omega
        · rw [upd_ne (ne_of_none e hD)]; exact X7.h _ _ e
        · rw [upd_ne (ne_of_none e hfd7)]; exact X7.i _ _ e
        · rw [List.length_append]; show ds.length + 1 ≤ i + 1; omega
        · simp only [eb, er, ey, ok_bind, if_true] at o2
          cases el : lcF k t e (wipeE ρ vs) (xs.drop (i + 1)) with
          | ok ys =>
            rw [el] at o2
            show GE c true Hf H Q (.ol (ds ++ [y'] ++ ys))
            rw [List.append_assoc]; exact o2
          | bad => rw [el] at o2; exact o2
          | ex n as => rw [el] at o2; exact o2
  · rintro H2 ⟨_, Hfi, acc, ds, x2, hacc, hfd, hds, _, o2⟩
    rw [List.drop_length] at o2
    have o3 : GE c true Hf H Q (.ol (ds ++ [])) := o2
    rw [List.append_nil] at o3
    exact o3 _ _ _ (x1.trans x2) ⟨Dd, acc, rfl, hacc, hfd, hds⟩ fun _ _ p e => by cases e; exact x1.h.free hD

/-! ### x.append(e) -/
def appS (i : Nat) (f : En → R SV) : En → R Fl := fun ρ => match ρ[i]? with
  | some (some (.ol xs)) => f ρ >>= fun r => datS r >>= fun d => if xs.length < sizeLine then .ok (.nx (ρ.set i (some (.ol (xs ++ [d]))))) else .bad
  | _ => .bad
theorem sem_app {i : Nat} {t : TE} {f : En → R SV} (h : SemE c true t f) : SemS c (tDrop (tBM c.K "list" rAppend (tVar i) (tCons t tNil))) (appS i f) := by
  intro B H0 Hf H σ ρ Dn I o
  unfold appS at o
  split at o
  rotate_left
  · exact o.elim
  rename_i xs e
  obtain ⟨v, h1, p, vs, rfl, h2, h3, h4⟩ := I.sl i _ e
  refine ⟨.ref p, h1, .inl ⟨rfl, vs, .inl (.inl h2)⟩, ?_⟩
  refine h B H0 Hf H σ ρ _ I ((Out.bind o fun a ea o1 => ?_ : Out c B H0 (f ρ) (GE c true Hf H _)).here I.ext)
  intro u Hf1 H1 x1 q1 fr
  obtain ⟨d, ed, o2⟩ := out_dat o1
  obtain ⟨Hf2, x2, q2⟩ := froze x1 q1 (fr rfl) ed
  split at o2
  rotate_left
  · exact o2.elim
  rename_i hlen
  have h2' := x2.h _ _ h2
  have h3' := x2.still h2 h3
  refine ⟨p, vs, u, rfl, rfl, h2', by rw [dpAll_len h4]; exact hlen, ?_⟩
  have I2 := I.grow x2
  have hn := I.new i _ p e rfl h1
  have hi : i < ρ.length := (List.getElem?_eq_some_iff.mp e).1
  refine (show GS c B H0 Dn (.nx (ρ.set i (some (.ol (xs ++ [d]))))) from o2) Hf2 _ σ ⟨⟨I2.ext.f, fun b o eb => ?_, fun b o eb => ?_, I2.ext.n⟩, by rw [List.length_set]; exact I2.len, fun j s ej => ?_, fun j s q ej oj es => ?_, fun j k sj sk q ej oj ek ok e1 e2 => ?_, fun j ys ej => ?_⟩
  · rw [upd_ne (ne_of_none eb hn)]; exact I2.ext.h _ _ eb
  · rw [upd_ne (ne_of_none eb h3')]; exact I2.i _ _ eb
  · rcases set_get ej with ⟨rfl, ej, _⟩ | ⟨hj, ej⟩
    · cases ej
      exact ⟨_, h1, p, _, rfl, upd_same, h3', dpAll_append (dpAll_mono x2.f h4) (.cons q2 .nil)⟩
    · obtain ⟨w, w1, w2⟩ := I2.sl j s ej
      refine ⟨w, w1, ?_⟩
      cases s with
      | d x => exact w2
      | ol ys =>
        obtain ⟨q, us, rfl, u1, u2⟩ := w2
        have hq : q ≠ p := fun z => hj (I2.sep j i _ _ p ej rfl e rfl (z ▸ w1) h1)
        exact ⟨q, us, rfl, by rw [upd_ne hq]; exact u1, u2⟩
      | od ys =>
        obtain ⟨q, us, rfl, u1, u2⟩ := w2
        have hq : q ≠ p := fun z => hj (I2.sep j i _ _ p ej rfl e rfl (z ▸ w1) h1)
        exact ⟨q, us, rfl, by rw [upd_ne hq]; exact u1, u2⟩
      | pin ys =>
        obtain ⟨q, us, rfl, u1, u2⟩ := w2
        have hq : q ≠ p := I2.pin_ne ej w1 hn
        exact ⟨q, us, rfl, by rw [upd_ne hq]; exact u1, u2⟩
      | exn n as => exact ⟨w2.1, w2.2.1, w2.2.2.upd h2'⟩
      | pd ys => exact w2
  · rcases set_get ej with ⟨rfl, ej, _⟩ | ⟨_, ej⟩
    · rw [h1] at es; cases es; exact hn
    · exact I2.new j s q ej oj es
  · have old : ∀ {j : Nat} {s : SV}, (ρ.set i (some (.ol (xs ++ [d]))))[j]? = some (some s) → s.own = true → ∃ s', ρ[j]? = some (some s') ∧ s'.own = true := by
      intro j s ej oj
      rcases set_get ej with ⟨rfl, _, _⟩ | ⟨_, ej⟩
      · exact ⟨_, e, rfl⟩
      · exact ⟨s, ej, oj⟩
    obtain ⟨sj', a1, a2⟩ := old ej oj
    obtain ⟨sk', b1, b2⟩ := old ek ok
    exact I2.sep j k sj' sk' q a1 a2 b1 b2 e1 e2
  · rcases set_get ej with ⟨_, ej, _⟩ | ⟨_, ej⟩
    · cases ej
    · exact I2.pin j ys ej
end

/-! ### a def -/
def startE (N : Nat) (ds : List D) : En := (ds.map fun d => some (.d d)) ++ List.replicate (N - ds.length) none
def runB (n N : Nat) (f : En → R Fl) (ds : List D) : R SV := if ds.length = n then f (startE N ds) >>= fun fl => match fl with
  | .rt r => .ok r
  | .nx _ => .ok (.d .none)
  | _ => .bad else .bad
theorem start_ok {K : Kx} {Hf H : Hp} {N : List Str} {vs : List V} {ds : List D} (i : Same Hf H) (h : DpAll K Hf vs ds) : EnvOk K ⟨Hf, fun _ => .non⟩ H Hf H (L2.start N vs) (startE N.length ds) := by
  have hl := dpAll_len h
  have none_own : ∀ {j : Nat} {s : SV}, (startE N.length ds)[j]? = some (some s) → ∃ d, s = .d d ∧ ds[j]? = some d := by
    intro j s e
    unfold startE at e
    rcases Nat.lt_or_ge j ds.length with z | z
    · rw [List.getElem?_append_left (by simpa using z), List.getElem?_map, List.getElem?_eq_getElem z] at e
      cases e
      exact ⟨_, rfl, List.getElem?_eq_getElem z⟩
    · rw [List.getElem?_append_right (by simpa using z), List.getElem?_replicate] at e
      split at e <;> cases e
  refine ⟨.refl i, by unfold L2.start startE; simp [hl], fun j s e => ?_, fun j s p e o => ?_, fun j k sj sk p ej oj => ?_, fun j xs e => ?_⟩
  · obtain ⟨d, rfl, hd⟩ := none_own e
    obtain ⟨v, hv, q⟩ := dpAll_get h hd
    refine ⟨v, ?_, q⟩
    unfold L2.start
    have hj : j < vs.length := (List.getElem?_eq_some_iff.mp hv).1
    rw [List.getElem?_append_left (by simpa using hj), List.getElem?_map, hv] <;> rfl
  · obtain ⟨d, rfl, _⟩ := none_own e
    cases o
  · obtain ⟨d, rfl, _⟩ := none_own ej
    cases oj
  · obtain ⟨d, z, _⟩ := none_own e
    cases z
theorem body_ok {K : PySem.W.Frag} {cm : Nat → Addr × List Str} {E : XK} {N ps : List Str} {t : TS} {f : En → R Fl} {vs : List V} {H : Hp} {Q : VK} (h : ∀ ex : Exi, SemS ⟨⟨K, ex⟩, cm, E⟩ t f) (hsp : spF K cm ps.length (runB ps.length N.length f) vs H Q E) :
    t { nx := fun _ H' => Q .non H', rt := Q } (L2.start N vs) H := by
  obtain ⟨hl, ex, Hf, ds, i, q, o⟩ := hsp
  have I := start_ok (K := ⟨K, ex⟩) (N := N) i q
  unfold runB at o
  rw [if_pos (by rw [← dpAll_len q]; exact hl)] at o
  refine h ex ⟨Hf, fun _ => .non⟩ H Hf H _ _ _ I (Out.bind o fun fl efl o1 => ?_)
  cases fl with
  | nx ρ => exact fun Hf2 H2 σ2 I2 => (show GE ⟨⟨K, ex⟩, cm, E⟩ true Hf H Q (.d .none) from o1) .non Hf2 H2 I2.ext .non fun _ z => nomatch z
  | rt r => exact fun v Hf2 H2 x q fr => (show GE ⟨⟨K, ex⟩, cm, E⟩ true Hf H Q r from o1) v Hf2 H2 x q fun _ => fr
  | bk ρ => exact o1.elim
  | ct ρ => exact o1.elim
section
variable {P : Program} {w : World} {K : PySem.W.Frag} {mg : Str → Option Value} {base : Heap}
theorem mk_ok {x qual : Str} {st : Stmt} {f : Addr} {fd : FuncData} {N ps : List Str} {k : Nat} {cm : Nat → Addr × List Str} {b : En → R Fl} (F : Fun K x qual st f fd) (S : FnScope N ps (defScope st))
    (hb : ∀ (cdv : Value) (A : Around) (outer : List Env) (s : Shared) (H : Hp) (E : XK), Room k (A.deeper (envOfC qual (defScope st) s.heap.objs.size f cdv)) →
      ∃ t, PSs (cxOf CX0 P w K mg base N qual (defScope st) f cdv A outer s H E).nox (defBody st) t ∧ ∀ ex : Exi, SemS ⟨⟨K, ex⟩, cm, E⟩ t b) :
    FnOk P w K mg base CX0 (k + 1) f fd ps (spF K cm ps.length (runB ps.length N.length b)) := by
  refine F.ok S (fun vs H Q E h => h.1) fun cdv A outer s H vs Q E hr h => ?_
  obtain ⟨t, h1, h2⟩ := hb cdv A outer s H E hr
  exact ⟨t, h1, body_ok (ps := ps) h2 h⟩
theorem passE {X : Cx} {E : XK} : Passes CX0 X E := fun _ _ _ _ _ _ _ h => h.elim
end
end Pl
namespace Pl
open PySem PySem.Spec PyProof.Rows L2
section
variable {X : Cx}
abbrev rLen (K : PySem.W.Frag) : List V → Hp → VK → Prop := fun xs H Q => ∃ x n, xs = [x] ∧ LenV K x H n ∧ Q (.int n) H
abbrev rInt : List V → Hp → VK → Prop := fun xs H Q => (∃ i, xs = [.int i] ∧ Q (.int i) H) ∨ ∃ k, xs = [.bl k] ∧ Q (.int (if k then 1 else 0)) H
abbrev rAbs : List V → Hp → VK → Prop := fun xs H Q => ∃ i, xs = [.int i] ∧ Q (.int (if i < 0 then -i else i)) H
abbrev rMax2 : List V → Hp → VK → Prop := fun xs H Q => ∃ i j, xs = [.int i, .int j] ∧ Q (.int (if j > i then j else i)) H
abbrev rMin2 : List V → Hp → VK → Prop := fun xs H Q => ∃ i j, xs = [.int i, .int j] ∧ Q (.int (if j < i then j else i)) H
abbrev rList (K : PySem.W.Frag) : List V → Hp → VK → Prop := fun xs H Q => ∃ p ys, xs = [.ref p] ∧ (SqL K H p ys ∨ SqT K H p ys) ∧ ∀ l, H l = none → Q (.ref l) (upd H l (.lst ys))
abbrev rTupl (K : PySem.W.Frag) : List V → Hp → VK → Prop := fun xs H Q => ∃ p ys, xs = [.ref p] ∧ ((SqL K H p ys ∧ ∀ l, H l = none → Q (.ref l) (upd H l (.tup ys))) ∨ (SqT K H p ys ∧ Q (.ref p) H))
abbrev rIsN : R2 := fun x y H Q => y = .non ∧ Q (.bl (decide (x = .non))) H
abbrev rNotN : R2 := fun x y H Q => y = .non ∧ Q (.bl (!decide (x = .non))) H
theorem cb_len : CallR X (.builtin "len") (rLen X.K) := call_len
theorem cb_int : CallR X (.type "int") rInt := call_int1
theorem cb_abs : CallR X (.builtin "abs") rAbs := call_abs
theorem cb_max2 (hc : X.calm = true) : CallR X (.builtin "max") rMax2 := call_max2 hc
theorem cb_min2 (hc : X.calm = true) : CallR X (.builtin "min") rMin2 := call_min2 hc
theorem cb_list : CallR X (.type "list") (rList X.K) := call_list_of
theorem cb_tup : CallR X (.type "tuple") (rTupl X.K) := call_tuple_of
end
theorem u65 {k : Nat} {A : Around} (r : Room k A) : A.units + 65 < cLine := by have := r.un; omega
/-- a def of the text, as it is called -/
structure Fn (K : PySem.W.Frag) (mg : Str → Option Value) (x : Str) (st : Stmt) (ps : List Str) (f : Addr) (fd : FuncData) : Prop where
  F : Fun K x x st f fd
  b : Binds K fd ps []
  m : mg x = some (.ref f)
def fuel : En → Nat := fun _ => 1000000
theorem law_sp {K : PySem.W.Frag} {cm : Nat → Addr × List Str} {g : List D → R SV} {H : Hp} {a : Addr} {ns : List Int} {E : XK} (hS : SqL K H a (ns.map V.int)) (h : g [.list (ns.map PyData.int)] = .ok (.d (.bool true))) :
    spF K cm 1 g [.ref a] H (fun v _ => v = .bl true) E := by
  refine ⟨rfl, ⟨0, 0, none⟩, H, [.list (ns.map PyData.int)], .refl _, .cons (.lst hS (dpAll_ints ns)) .nil, ?_⟩
  rw [h]
  intro v Hf' H' x q _
  cases q
  rfl
end Pl
namespace Pl
open PySem PySem.Spec PyProof.Rows L2

/-! ### sorted(list of data) -/
def allAlike (ds : List D) : Bool := ds.all fun d => ds.all fun e => PySem.W.alike d e
def isTup1 : D → Bool
  | .tuple (_ :: _) => true
  | _ => false
def noTup : D → Bool
  | .none => false
  | .tuple _ => false
  | _ => true
def sortable (ds : List D) : Bool := ds.all isTup1 || ds.all noTup
def sortD (ds : List D) : List D := ds.mergeSort (PySem.W.dataLe false id)
def sortedS : List SV → R SV
  | [a] => (match datL a with
    | .ok ds => if allAlike ds = true ∧ sortable ds = true ∧ (ds.all fun d => decide (d.depth ≤ 60)) = true ∧ ds.length ≤ sizeLine then .ok (.ol (sortD ds)) else .bad
    | _ => .bad)
  | _ => .bad
theorem allAlike_of {ds : List D} (h : allAlike ds = true) : PySem.W.AllAlike ds := fun d hd d' hd' => by
  unfold allAlike at h
  exact List.all_eq_true.mp (List.all_eq_true.mp h d hd) d' hd'
theorem sortable_of {ds : List D} (h : sortable ds = true) : PySem.W.Sortable ds := by
  unfold sortable at h
  rcases Bool.or_eq_true_iff.mp h with h | h
  · refine .inl fun d hd => ?_
    have q := List.all_eq_true.mp h d hd
    unfold isTup1 at q
    split at q
    · exact ⟨_, _, rfl⟩
    · cases q
  · refine .inr fun d hd => ?_
    have q := List.all_eq_true.mp h d hd
    refine ⟨fun e => ?_, fun xs e => ?_⟩ <;> (subst e; cases q)
/-- the values as they are sorted with their data -/
def sortV (vs : List V) (ds : List D) : List V := ((vs.zip ds).mergeSort (PySem.W.dataLe false Prod.snd)).map Prod.fst
theorem zip_snd {K : PySem.W.Frag} {H : Hp} : ∀ {vs : List V} {ds : List D}, DpAll K H vs ds → (vs.zip ds).map Prod.snd = ds
  | _, _, .nil => rfl
  | _, _, .cons _ t => by simp [zip_snd t]
theorem zip_dp {K : PySem.W.Frag} {H : Hp} : ∀ {vs : List V} {ds : List D}, DpAll K H vs ds → ∀ p ∈ vs.zip ds, Dp K H p.1 p.2
  | _, _, .nil, p, h => by simp at h
  | _, _, .cons a t, p, h => by
    rw [List.zip_cons_cons] at h
    rcases List.mem_cons.mp h with rfl | h
    · exact a
    · exact zip_dp t p h
theorem dpAll_of {K : PySem.W.Frag} {H : Hp} : ∀ (l : List (V × D)), (∀ p ∈ l, Dp K H p.1 p.2) → DpAll K H (l.map Prod.fst) (l.map Prod.snd)
  | [], _ => .nil
  | p :: l, h => .cons (h p List.mem_cons_self) (dpAll_of l fun q hq => h q (List.mem_cons_of_mem _ hq))
theorem sort_dp {K : PySem.W.Frag} {H : Hp} {vs : List V} {ds : List D} (h : DpAll K H vs ds) : DpAll K H (sortV vs ds) (sortD ds) := by
  have e : sortD ds = ((vs.zip ds).mergeSort (PySem.W.dataLe false Prod.snd)).map Prod.snd := by
    have q := List.map_mergeSort (r := PySem.W.dataLe false (Prod.snd : V × D → D)) (s := PySem.W.dataLe false id) (f := Prod.snd) (l := vs.zip ds) (fun a _ b _ => rfl)
    rw [zip_snd h] at q
    exact q.symm
  rw [e]
  unfold sortV
  exact dpAll_of _ fun p hp => zip_dp h p (List.mem_mergeSort.mp hp)
def rSortD (K : PySem.W.Frag) : List V → Hp → VK → Prop := fun xs H Q => ∃ a vs ds, xs = [.ref a] ∧ SqL K H a vs ∧ DpAll K H vs ds ∧ PySem.W.AllAlike ds ∧ PySem.W.Sortable ds ∧ (∀ d ∈ ds, d.depth ≤ 60) ∧ ds.length ≤ sizeLine ∧
  ∀ p, H p = none → Q (.ref p) (upd H p (.lst (sortV vs ds)))
theorem each_zip {X : Cx} {pins : List (Addr × Obj)} {σ : L2.St} {H : Hp} {s : Shared} (I : Inv X pins σ H s) : ∀ {vs : List V} {ds : List D} {its : List Value}, DpAll X.K H vs ds → Vals vs its →
    PySem.W.EachIs (fun (u : Value) (b : V × D) => RelV b.1 u) its (vs.zip ds) ∧ PySem.W.EachIs (fun (u : Value) (b : V × D) => ∃ as, Reads s.heap u b.2 as) its (vs.zip ds)
  | _, _, _, .nil, .nil => ⟨.nil, .nil⟩
  | _, _, _, .cons a t, .cons r q => by
    obtain ⟨h1, h2⟩ := each_zip I t q
    exact ⟨.cons r h1, .cons (Dp.reads I _ _ _ a r) h2⟩
theorem each_vals : ∀ {out : List Value} {l : List (V × D)}, PySem.W.EachIs (fun (u : Value) (b : V × D) => RelV b.1 u) out l → Vals (l.map Prod.fst) out
  | _, _, .nil => .nil
  | _, _, .cons a t => .cons a (each_vals t)
theorem cb_sorted {X : Cx} (hu : X.A.units + 65 < cLine) : CallR X (.builtin "sorted") (rSortD X.K) := by
  intro pins s σ H xs us Q I r h
  obtain ⟨a, vs, ds, rfl, hs, hd, hal, hk, hdp, hL, q⟩ := h
  obtain ⟨its, rv, hl, hz⟩ := I.list hs
  rw [Vals.ref1 r]
  obtain ⟨e1, e2⟩ := each_zip I hd rv
  have hds := zip_snd hd
  have hlen : (vs.zip ds).length = ds.length := by rw [← hds, List.length_map]; rw [hds]
  refine PySem.W.sorted_data (bs := vs.zip ds) (enc := Prod.snd) hl.isList e1 e2 (by rw [hds]; exact hal) (by rw [hds]; exact hk) (by rw [hlen]; exact hL) (fun b hb => ?_) fun out ho eo => ?_
  · have : b.2 ∈ ds := by rw [← hds]; exact List.mem_map_of_mem hb
    have := hdp _ this
    omega
  · obtain ⟨ep, he'⟩ := PyProof.Rows.sortedAll_at s.heap its out.toArray
    have hv := each_vals eo
    have hl2 : (sortV vs ds).length ≤ sizeLine := by
      have := hv.length
      unfold sortV
      rw [this, ho, hlen]; exact hL
    exact ⟨.ref _, upd H (s.heap.objs.size + 1) (.lst (sortV vs ds)), I.laid (t' := s.toks) (fun _ _ => PyProof.Rows.sortedAll_old) (Nat.le_succ _) ⟨hl2, out, ep, hv, he'⟩, rfl, q _ (I.hok.fresh (Nat.le_succ _))⟩
theorem c1_sorted {c : Ct} : C1ok c (rSortD c.K) sortedS := by
  intro Hf H vs rs Q i h o
  unfold sortedS at o
  split at o
  · split at o
    · rename_i xs e
      split at o
      · rename_i hc
        cases h with
        | cons a b =>
          cases b
          obtain ⟨p, ws, rfl, h1, h2⟩ := datL_ok i a e
          exact ⟨_, _, _, rfl, h1, dpAll_mono i h2, allAlike_of hc.1, sortable_of hc.2.1, fun d hd => of_decide_eq_true (List.all_eq_true.mp hc.2.2.1 d hd), hc.2.2.2, fun p hp => GE.newL o i hp (sort_dp h2)⟩
      · exact o.elim
    · exact o.elim
  · exact o.elim

/-! ### list(range(..)) -/
def lrng1 (f : En → R SV) : En → R SV := fun ρ => f ρ >>= fun a => match a with
  | .d (.int j) => if okR j = true ∧ j ≤ 16777216 then .ok (.ol (rng 0 j)) else .bad
  | _ => .bad
def lrng2 (f g : En → R SV) : En → R SV := fun ρ => f ρ >>= fun a => g ρ >>= fun b => match a, b with
  | .d (.int i), .d (.int j) => if okR i = true ∧ okR j = true ∧ j - i ≤ 16777216 then .ok (.ol (rng i j)) else .bad
  | _, _ => .bad
theorem rgV_dp {K : PySem.W.Frag} {H : Hp} (a b : Int) : DpAll K H (rgV a b) (rng a b) := by
  unfold rgV rng
  induction List.range (b - a).toNat with
  | nil => exact .nil
  | cons k r ih => exact .cons (.int _) ih
theorem sem_lrng1 {c : Ct} {t : TE} {f : En → R SV} (h : SemE c false t f) : SemE c true (tLstRg (tRg1 t)) (lrng1 f) := by
  intro B H0 Hf H σ ρ Q I o
  refine h B H0 Hf H σ ρ _ I (Out.bind o fun a ea o1 => fun v Hf1 H1 x1 q1 _ => ?_)
  split at o1
  · split at o1
    · rename_i hj
      cases q1
      exact ⟨_, rfl, ⟨by omega, by omega, (okR_ok hj.1).1, (okR_ok hj.1).2, by have := hj.2; omega⟩, fun p hp => GE.newL (GE.grow (show GE c true Hf H Q _ from o1) x1) x1.i hp (rgV_dp _ _)⟩
    · exact o1.elim
  · exact o1.elim
theorem sem_lrng2 {c : Ct} {t u : TE} {f g : En → R SV} (h : SemE c false t f) (h' : SemE c false u g) : SemE c true (tLstRg (tRg2 t u)) (lrng2 f g) := by
  intro B H0 Hf H σ ρ Q I o
  refine h B H0 Hf H σ ρ _ I (Out.bind o fun a ea o1 => fun v Hf1 H1 x1 q1 _ => ?_)
  refine h' B H0 Hf1 H1 σ ρ _ (I.grow x1) (Out.bind (o1.grow x1 fun _ z => z) fun b eb o2 => fun u Hf2 H2 x2 q2 _ => ?_)
  split at o2
  · split at o2
    · rename_i hj
      cases q1; cases q2
      exact ⟨_, _, rfl, rfl, ⟨(okR_ok hj.1).1, (okR_ok hj.1).2, (okR_ok hj.2.1).1, (okR_ok hj.2.1).2, by have := hj.2.2; omega⟩, fun p hp => GE.newL (GE.grow (show GE c true Hf H Q _ from o2) (x1.trans x2)) x2.i hp (rgV_dp _ _)⟩
    · exact o2.elim
  · exact o2.elim

/-! ### is True, is False, of any datum -/
section
variable {X : Cx}
def rIsB2 (K : PySem.W.Frag) : R2 := fun x y H Q => ∃ d b, Dp K H x d ∧ y = .bl b ∧ Q (.bl (decide (x = .bl b))) H
def rNotB2 (K : PySem.W.Frag) : R2 := fun x y H Q => ∃ d b, Dp K H x d ∧ y = .bl b ∧ Q (.bl (!decide (x = .bl b))) H
theorem dp_bool {K : PySem.W.Frag} {H : Hp} {x : V} {d : D} {v : Value} {b : Bool} (h : Dp K H x d) (r : RelV x v) : PySem.plainIs v (.bool b) = true ∧ (decide (x = .bl b) = (v == .bool b)) := by
  cases h with
  | non => cases r; exact ⟨rfl, rfl⟩
  | bl c =>
    cases (show v = Value.bool c from r)
    refine ⟨rfl, ?_⟩
    cases b <;> cases c <;> rfl
  | int i => obtain ⟨t, rfl⟩ := r; exact ⟨rfl, rfl⟩
  | str z => obtain ⟨t, rfl⟩ := r; exact ⟨rfl, rfl⟩
  | lst _ _ => cases r; exact ⟨rfl, rfl⟩
  | tup _ _ => cases r; exact ⟨rfl, rfl⟩
theorem op_isB2 : OpR X (compareOp .Is) (rIsB2 X.K) := by
  intro pins s σ H x y v u Q I rx ry h
  obtain ⟨d, b, hd, rfl, q⟩ := h
  cases (show u = Value.bool b from ry)
  obtain ⟨h1, h2⟩ := dp_bool (b := b) hd rx
  exact PySem.wpAny_is_plain h1 ⟨.bl _, H, I, by rw [← h2]; rfl, q⟩
theorem op_notB2 : OpR X (compareOp .IsNot) (rNotB2 X.K) := by
  intro pins s σ H x y v u Q I rx ry h
  obtain ⟨d, b, hd, rfl, q⟩ := h
  cases (show u = Value.bool b from ry)
  obtain ⟨h1, h2⟩ := dp_bool (b := b) hd rx
  exact PySem.wpAny_isNot_plain h1 ⟨.bl _, H, I, by rw [← h2]; rfl, q⟩
end
def isbD (d : D) (b : Bool) : Bool := match d with
  | .bool a => decide (a = b)
  | _ => false
def isbS (neg : Bool) (x y : SV) : R SV := match y with
  | .d (.bool b) => datS x >>= fun d => .ok (.d (.bool (if neg then !isbD d b else isbD d b)))
  | _ => .bad
theorem isbD_of {K : PySem.W.Frag} {H : Hp} {x : V} {d : D} (b : Bool) (h : Dp K H x d) : decide (x = .bl b) = isbD d b := by
  cases h with
  | bl c => cases b <;> cases c <;> rfl
  | _ => rfl
theorem r2_isB {c : Ct} : R2ok c (rIsB2 c.K) (isbS false) := by
  intro Hf H x y rx ry Q i hx hy o
  unfold isbS at o
  split at o
  · obtain ⟨d, e1, o2⟩ := out_dat o
    cases hy
    have q := looked (c := c) i hx e1
    exact ⟨d, _, q, rfl, by rw [isbD_of _ q]; exact GE.now o2 i (.bl _)⟩
  · exact o.elim
theorem r2_notB {c : Ct} : R2ok c (rNotB2 c.K) (isbS true) := by
  intro Hf H x y rx ry Q i hx hy o
  unfold isbS at o
  split at o
  · obtain ⟨d, e1, o2⟩ := out_dat o
    cases hy
    have q := looked (c := c) i hx e1
    exact ⟨d, _, q, rfl, by rw [isbD_of _ q]; exact GE.now o2 i (.bl _)⟩
  · exact o.elim

/-! ### a list of this frame is changed -/
/-- the slot's object is written anew -/
theorem EnvOk.rewrite {K : Kx} {B : Bs} {H0 Hf H : Hp} {σ : L2.St} {ρ : En} {i : Nat} {xs xs' : List D} {vs vs' : List V} {p : Addr} (I : EnvOk K B H0 Hf H σ ρ) (e : ρ[i]? = some (some (.ol xs))) (h1 : σ[i]? = some (some (.ref p))) (h2 : H p = some (.lst vs)) (h3 : Hf p = none) (h4 : DpAll K Hf vs' xs') :
    EnvOk K B H0 Hf (upd H p (.lst vs')) σ (ρ.set i (some (.ol xs'))) := by
  have hn := I.new i _ p e rfl h1
  refine ⟨⟨I.ext.f, fun b o eb => ?_, fun b o eb => ?_, I.ext.n⟩, by rw [List.length_set]; exact I.len, fun j s ej => ?_, fun j s q ej oj es => ?_, fun j k sj sk q ej oj ek ok e1 e2 => ?_, fun j ys ej => ?_⟩
  · rw [upd_ne (ne_of_none eb hn)]; exact I.ext.h _ _ eb
  · rw [upd_ne (ne_of_none eb h3)]; exact I.i _ _ eb
  · rcases set_get ej with ⟨rfl, ej, _⟩ | ⟨hj, ej⟩
    · cases ej
      exact ⟨_, h1, p, _, rfl, upd_same, h3, h4⟩
    · obtain ⟨w, w1, w2⟩ := I.sl j s ej
      refine ⟨w, w1, ?_⟩
      cases s with
      | d x => exact w2
      | ol ys =>
        obtain ⟨q, us, rfl, u1, u2⟩ := w2
        have hq : q ≠ p := fun z => hj (I.sep j i _ _ p ej rfl e rfl (z ▸ w1) h1)
        exact ⟨q, us, rfl, by rw [upd_ne hq]; exact u1, u2⟩
      | od ys =>
        obtain ⟨q, us, rfl, u1, u2⟩ := w2
        have hq : q ≠ p := fun z => hj (I.sep j i _ _ p ej rfl e rfl (z ▸ w1) h1)
        exact ⟨q, us, rfl, by rw [upd_ne hq]; exact u1, u2⟩
      | pin ys =>
        obtain ⟨q, us, rfl, u1, u2⟩ := w2
        have hq : q ≠ p := I.pin_ne ej w1 hn
        exact ⟨q, us, rfl, by rw [upd_ne hq]; exact u1, u2⟩
      | exn n as => exact ⟨w2.1, w2.2.1, w2.2.2.upd h2⟩
      | pd ys => exact w2
  · rcases set_get ej with ⟨rfl, ej, _⟩ | ⟨_, ej⟩
    · rw [h1] at es; cases es; exact hn
    · exact I.new j s q ej oj es
  · have old : ∀ {j : Nat} {s : SV}, (ρ.set i (some (.ol xs')))[j]? = some (some s) → s.own = true → ∃ s', ρ[j]? = some (some s') ∧ s'.own = true := by
      intro j s ej oj
      rcases set_get ej with ⟨rfl, _, _⟩ | ⟨_, ej⟩
      · exact ⟨_, e, rfl⟩
      · exact ⟨s, ej, oj⟩
    obtain ⟨sj', a1, a2⟩ := old ej oj
    obtain ⟨sk', b1, b2⟩ := old ek ok
    exact I.sep j k sj' sk' q a1 a2 b1 b2 e1 e2
  · rcases set_get ej with ⟨_, ej, _⟩ | ⟨_, ej⟩
    · cases ej
    · exact I.pin j ys ej
/-- x[k] = e -/
def setS (i : Nat) (fk f : En → R SV) : En → R Fl := fun ρ => f ρ >>= fun r => datS r >>= fun d => match ρ[i]? with
  | some (some (.ol xs)) => fk ρ >>= fun k => (match k with
    | .d (.int n) => (match ixN xs.length n with
      | some j => .ok (.nx (ρ.set i (some (.ol (xs.set j d)))))
      | none => .bad)
    | _ => .bad)
  | _ => .bad
theorem sem_setL {c : Ct} {i : Nat} {t tk : TE} {f fk : En → R SV} (h : SemE c true t f) (hk : SemE c false tk fk) : SemS c (tAsg t (gSub (tVar i) tk rSetL)) (setS i fk f) := by
  intro B H0 Hf H σ ρ Dn I o
  refine h B H0 Hf H σ ρ _ I ((Out.bind o fun a ea o1 => ?_ : Out c B H0 (f ρ) (GE c true Hf H _)).here I.ext)
  intro u Hf1 H1 x1 q1 fr
  obtain ⟨d, ed, o2⟩ := out_dat o1
  obtain ⟨Hf2, x2, q2⟩ := froze x1 q1 (fr rfl) ed
  split at o2
  rotate_left
  · exact o2.elim
  rename_i xs e
  have I2 := I.grow x2
  obtain ⟨v, h1, p, vs, rfl, h2, h3, h4⟩ := I2.sl i _ e
  refine ⟨.ref p, h1, ?_⟩
  refine hk B H0 Hf2 H1 σ ρ _ I2 ((Out.bind o2 fun kk ek o3 => ?_ : Out c B H0 (fk ρ) (GE c false Hf2 H1 _)).here I2.ext)
  intro w Hf3 H3 x3 q3 _
  split at o3
  rotate_left
  · exact o3.elim
  rename_i n
  split at o3
  rotate_left
  · exact o3.elim
  rename_i j ej
  cases q3
  have I3 := I2.grow x3
  have h2' := x3.h _ _ h2
  have h3' := x3.still h2 h3
  exact ⟨p, vs, _, j, rfl, rfl, h2', by rw [dpAll_len h4]; exact ej, (show GS c B H0 Dn (.nx _) from o3) _ _ _ (I3.rewrite e h1 h2' h3' (dpAll_set (dp_mono x3.f q2) j (dpAll_mono x3.f h4)))⟩
/-- x.extend(e), e a new list -/
def extS (i : Nat) (f : En → R SV) : En → R Fl := fun ρ => match ρ[i]? with
  | some (some (.ol xs)) => f ρ >>= fun r => (match r with
    | .ol ys => if xs.length + ys.length ≤ sizeLine then .ok (.nx (ρ.set i (some (.ol (xs ++ ys))))) else .bad
    | _ => .bad)
  | _ => .bad
theorem sem_ext {c : Ct} {i : Nat} {t : TE} {f : En → R SV} (h : SemE c true t f) : SemS c (tDrop (tBM c.K "list" rExtend (tVar i) (tCons t tNil))) (extS i f) := by
  intro B H0 Hf H σ ρ Dn I o
  unfold extS at o
  split at o
  rotate_left
  · exact o.elim
  rename_i xs e
  obtain ⟨v, h1, p, vs, rfl, h2, h3, h4⟩ := I.sl i _ e
  refine ⟨.ref p, h1, .inl ⟨rfl, vs, .inl (.inl h2)⟩, ?_⟩
  refine h B H0 Hf H σ ρ _ I ((Out.bind o fun a ea o1 => ?_ : Out c B H0 (f ρ) (GE c true Hf H _)).here I.ext)
  intro u Hf1 H1 x1 q1 fr
  split at o1
  rotate_left
  · exact o1.elim
  rename_i ys
  obtain ⟨p2, vs2, rfl, g1, g2, g3⟩ := q1
  split at o1
  rotate_left
  · exact o1.elim
  rename_i hlen
  have h2' := x1.h _ _ h2
  have h3' := x1.still h2 h3
  refine ⟨p, p2, vs, vs2, rfl, rfl, h2', g1, by rw [dpAll_len h4, dpAll_len g3]; exact hlen, ?_⟩
  exact (show GS c B H0 Dn (.nx _) from o1) _ _ _ ((I.grow x1).rewrite e h1 h2' h3' (dpAll_append (dpAll_mono x1.f h4) g3))

/-! ### a def that never answers (the ground of a recursion) -/
theorem mk_bad {P : Program} {w : World} {K : PySem.W.Frag} {mg : Str → Option Value} {base : Heap} {x qual : Str} {st : Stmt} {f : Addr} {fd : FuncData} {N ps : List Str} {k : Nat} {cm : Nat → Addr × List Str} {n : Nat} (F : Fun K x qual st f fd) (S : FnScope N ps (defScope st)) (hn : n = ps.length) :
    FnOk P w K mg base CX0 (k + 1) f fd ps (spF K cm n fun _ => .bad) := by
  refine F.ok S (fun vs H Q E h => h.1.trans hn) fun cdv A outer s H vs Q E hr h => ?_
  obtain ⟨_, _, _, _, _, _, o⟩ := h
  exact o.elim
end Pl
namespace Pl
open PySem PySem.Spec PyProof.Rows L2
section
variable {c : Ct}
/-! ### x[::-1] of a list -/
def revS (a : SV) : R SV := match datL a with
  | .ok xs => .ok (.ol xs.reverse)
  | _ => .bad
theorem dpAll_rev {K : PySem.W.Frag} {H : Hp} : ∀ {vs : List V} {ds : List D}, DpAll K H vs ds → DpAll K H vs.reverse ds.reverse
  | _, _, .nil => .nil
  | _, _, .cons a t => by
    rw [List.reverse_cons, List.reverse_cons]
    exact dpAll_append (dpAll_rev t) (.cons a .nil)
theorem sem_revL {t : TE} {f : En → R SV} (h : SemE c false t f) : SemE c true (tRevL c.K t) (una revS f) := by
  intro B H0 Hf H σ ρ Q I o
  refine h B H0 Hf H σ ρ _ I (Out.bind o fun a ea o1 => fun v Hf1 H1 x1 q1 _ => ?_)
  unfold revS at o1
  split at o1
  · rename_i xs e
    obtain ⟨p, vs, rfl, h1, h2⟩ := datL_ok x1.i q1 e
    exact ⟨_, _, rfl, h1, fun q hq => GE.newL (GE.grow (show GE c true Hf H Q _ from o1) x1) x1.i hq (dpAll_rev h2)⟩
  · exact o1.elim
/-! ### range with a step -/
def rng3 (i c : Int) (n : Nat) : List D := (List.range n).map fun k => .int (i + (k : Nat) * c)
def rngD3 (f : En → R (List SV)) : En → R (List D) := fun ρ => f ρ >>= fun a => match a with
  | [.d (.int i), .d (.int j), .d (.int k)] => if 0 < k ∧ k < 1073741824 ∧ Builtin.Range.small i j k = true then .ok (rng3 i k (if i < j then (j - i - 1) / k + 1 else 0).toNat) else .bad
  | _ => .bad
theorem walks_rng3 {K : PySem.W.Frag} {Hf : Hp} {i k : Int} {n : Nat} : Walks K (Itc i k n) Hf (rng3 i k n) := by
  refine ⟨YFn fun m => .int (i + (m : Nat) * k), ?_, fun m H x H' Hfi hl s1 s2 y => ?_⟩
  · have w := @walk_rangeC i k n
    unfold rng3
    rw [List.length_map, List.length_range]
    exact w.mono (fun _ _ => trivial) fun _ _ _ _ _ _ y => y
  · obtain ⟨rfl, rfl⟩ := y
    unfold rng3 at hl ⊢
    rw [List.length_map] at hl
    refine ⟨.int (i + (m : Nat) * k), Hfi, ?_, .refl s2, .int _⟩
    rw [List.getElem?_map, List.getElem?_range (by simpa using hl)] <;> rfl
theorem sem_rng3 {t : TA} {f : En → R (List SV)} (h : SemB c t f) : SemI c (iRng3 t) (rngD3 f) := by
  intro B H0 Hf H σ ρ Rr I o
  refine h B H0 Hf H σ ρ _ I (Out.bind o fun rs ers o1 => fun vs Hf1 H1 x1 q1 => ?_)
  split at o1
  · rename_i i j k
    split at o1
    · rename_i hj
      cases q1 with
      | cons a b =>
        cases b with
        | cons b d =>
          cases d with
          | cons d e =>
            cases e; cases a; cases b; cases d
            refine ⟨i, j, k, (if i < j then (j - i - 1) / k + 1 else 0).toNat, rfl, ⟨by omega, by omega, hj.2.2, ?_⟩, (show ∀ J Hf' H', Ext Hf H Hf' H' → Walks c.K J Hf' _ → Rr J H' from o1) _ Hf1 H1 x1 walks_rng3⟩
            unfold Builtin.Range.rangeSize
            rw [if_pos hj.1]
            by_cases hij : i < j
            · rw [if_pos hij]
              have := Int.ediv_nonneg (show 0 ≤ j - i - 1 by omega) (show 0 ≤ k by omega)
              omega
            · rw [if_neg hij]; rfl
    · exact o1.elim
  · exact o1.elim
/-! ### a text some times -/
def rMulS : R2 := fun x y H Q => ∃ z n, x = .str z ∧ y = .int n ∧ MulOk z n ∧ Q (.str (Txt.mul z n)) H
theorem op_mulS {X : Cx} : OpR X (binaryOp .Mult) rMulS := by
  intro pins s σ H x y v u Q I rx ry h
  obtain ⟨z, n, rfl, rfl, ok, q⟩ := h
  obtain ⟨t, rfl⟩ := rx
  obtain ⟨t', rfl⟩ := ry
  exact SB.mul ok fun t2 k => ⟨.str _, H, I.tok _, ⟨_, rfl⟩, q⟩
abbrev rMulA : R2 := fun x y H Q => rI CMul (fun i j => .int (i * j)) x y H Q ∨ rMulS x y H Q
theorem o_mul {X : Cx} : OpR X (binaryOp .Mult) rMulA := Pl.OpR.or op_mul op_mulS
def mulA (a b : SV) : R SV := match a, b with
  | .d (.str z), .d (.int n) => if 1 ≤ n ∧ n ≤ 1000 ∧ z.length ≤ 1000 then .ok (.d (.str (Txt.mul z n))) else .bad
  | a, b => mulS a b
theorem mulOk_of {z : Str} {n : Int} (h : 1 ≤ n ∧ n ≤ 1000 ∧ z.length ≤ 1000) : MulOk z n := by
  obtain ⟨h1, h2, h3⟩ := h
  refine ⟨?_, fun _ _ => ?_, fun _ _ => ?_⟩
  · rw [decide_eq_false (show ¬ n < -(2 ^ 63 : Int) by omega), decide_eq_false (show ¬ n ≥ 2 ^ 63 by omega)] <;> rfl
  · have : (1000 : Int) ≤ (2 ^ 63 - 1) / n := Int.le_ediv_of_mul_le (by omega) (by omega)
    omega
  · have q : z.length * n.toNat ≤ 1000 * 1000 := Nat.mul_le_mul h3 (by omega)
    have hz := sizeLine_eq
    unfold Builtin.Str.tooLong
    first
      | exact decide_eq_false (by omega)
      | (simp; omega)
theorem r2_mulA : R2ok c rMulA mulA := by
  intro Hf H x y rx ry Q i hx hy o
  unfold mulA at o
  split at o
  · split at o
    · rename_i h
      cases hx; cases hy
      exact .inr ⟨_, _, rfl, rfl, mulOk_of h, GE.now o i (.str _)⟩
    · exact o.elim
  · exact .inl (r2_mul Hf H x y _ _ Q i hx hy o)
end
end Pl
namespace Pl
open PySem PySem.Spec PyProof.Rows L2
section
variable {c : Ct}
/-! ### a list of this frame walked while it stays this frame's -/
theorem Ext.deep {B H0 H0' Hf H X Y : Hp} (g : Same H0 H0') (x : Ext B H0 Hf H) (y : Ext Hf H0' X Y) : Ext B H0 X Y :=
  ⟨x.f.trans y.f, g.trans y.h, y.i, fun p e => by
    rcases y.n p e with z | z
    · exact x.n p z
    · exact .inr (g.free z)⟩
theorem loop_pinned {is : List Nat} {g : TG} {tb : TS} {k : D → En → R En} {b : En → R Fl} (hg : SemG c is g k) (hb : SemS c tb b) {B : Bs} {H0 Hf H : Hp} {σ : L2.St} {ρ : En} {Dn : Ends} {p : Addr} {vs : List V} {xs : List D}
    (I : EnvOk c.K B H0 Hf H σ ρ) (hp : H0 p = some (.lst vs)) (hx : DpAll c.K Hf vs xs) (o : Out c B.h H0 (forF k b xs ρ) (GS c B H0 Dn)) :
    ∃ W : Nat → Nat → L2.St → Hp → Prop, (∃ m, W 0 m σ H) ∧ ∀ i m σ H, W i m σ H →
      ((Itl c.K p).stop i H ∧ Dn.nx σ H) ∨ ((Itl c.K p).go i H ∧ ∃ N : L2.St → Hp → Prop, (∀ σ' H', N σ' H' → ∃ m', m' < m ∧ W (i + 1) m' σ' H') ∧ ∀ x H', (Itl c.K p).yld i H x H' → g x σ H' fun σ2 H2 => tb { Dn with nx := N, ct := N, bk := Dn.nx } σ2 H2) := by
  have hl := dpAll_len hx
  refine for_it (walk_list (K := c.K) (a := p) (xs := vs)) (fun i σ H => i ≤ xs.length ∧ ∃ Hfi ρ, Same Hf Hfi ∧ EnvOk c.K B H0 Hfi H σ ρ ∧ Out c B.h H0 (forF k b (xs.drop i) ρ) (GS c B H0 Dn)) ⟨Nat.zero_le _, Hf, ρ, .refl _, I, o⟩ (fun i σ H _ ⟨_, Hfi, ρ, s, I, _⟩ => .inl (.inl (I.ext.h _ _ hp))) ?_ ?_
  · rintro i x σ H H' hlt ⟨_, Hfi, ρ, s, I, o⟩ ⟨rfl, y⟩
    rw [hl] at hlt
    obtain ⟨d, e1, q⟩ := dpAll_getV hx y
    have q := dp_mono s q
    have ed : xs.drop i = d :: xs.drop (i + 1) := by
      rw [List.drop_eq_getElem_cons hlt]
      rw [List.getElem?_eq_getElem hlt] at e1
      cases e1; rfl
    rw [ed] at o
    unfold forF at o
    cases ek : k d ρ with
    | bad => simp only [ek] at o; exact o.elim
    | ex n as => simp only [ek] at o; exact o.elim
    | ok ρ1 =>
      simp only [ek] at o
      refine hg B H0 Hfi _ σ ρ x d _ I q ⟨ρ1, ek, fun σ1 _ _ I3 => ?_⟩
      have xb : Ext B.h H0 Hfi _ := I.ext
      refine hb ⟨Hfi, B.fx⟩ H0 Hfi _ σ1 ρ1 _ I3.rebase ?_
      cases eb : b ρ1 with
      | bad => rw [eb] at o; exact o.elim
      | ex n as => rw [eb] at o; exact ExW.rebase (show ExW c B.h H0 n as from o) xb
      | ok fl =>
        rw [eb] at o
        cases fl with
        | nx ρ2 => exact fun Hf2 H2 σ2 J2 => ⟨hlt, Hf2, ρ2, s.trans J2.ext.f, J2.unbase xb, o⟩
        | ct ρ2 => exact fun Hf2 H2 σ2 J2 => ⟨hlt, Hf2, ρ2, s.trans J2.ext.f, J2.unbase xb, o⟩
        | bk ρ2 => exact fun Hf2 H2 σ2 J2 => (show GS c B H0 Dn (.nx ρ2) from o) _ _ _ (J2.unbase xb)
        | rt r => exact GS.rebase (show GS c B H0 Dn (.rt r) from o) xb
  · rintro σ H ⟨_, Hfi, ρ, s, I, o⟩
    rw [hl, List.drop_length] at o
    exact (show GS c B H0 Dn (.nx ρ) from o) _ _ _ I
def unpin (i : Nat) : Fl → R Fl
  | .nx ρ => (match ρ[i]? with
    | some (some (.pin ys)) => .ok (.nx (ρ.set i (some (.ol ys))))
    | _ => .bad)
  | .rt r => .ok (.rt r)
  | _ => .bad
def forP (i : Nat) (k : D → En → R En) (b : En → R Fl) : En → R Fl := fun ρ => match ρ[i]? with
  | some (some (.ol xs)) => forF k b xs (ρ.set i (some (.pin xs))) >>= unpin i
  | some (some (.pin xs)) => forF k b xs ρ
  | some (some (.d (.list xs))) => forF k b xs ρ
  | some (some (.d (.tuple xs))) => forF k b xs ρ
  | _ => .bad
open Classical in
theorem sem_forP {i : Nat} {is : List Nat} {g : TG} {tb : TS} {k : D → En → R En} {b : En → R Fl} (hg : SemG c is g k) (hb : SemS c tb b) : SemS c (tFor (iSeq c.K (tVar i)) g tb) (forP i k b) := by
  intro B H0 Hf H σ ρ Dn I o
  unfold forP at o
  have hd : ∀ (x : D) (xs : List D), ρ[i]? = some (some (.d x)) → (x = .list xs ∨ x = .tuple xs) → Out c B.h H0 (forF k b xs ρ) (GS c B H0 Dn) → tFor (iSeq c.K (tVar i)) g tb Dn σ H := by
    intro x xs e hx o
    refine sem_for (sem_seqI (sem_var (i := i))) hg hb B H0 Hf H σ ρ Dn I ?_
    unfold forS seqD getV
    rw [e]
    rcases hx with rfl | rfl <;> exact o
  split at o
  · rename_i xs e
    obtain ⟨v, h1, p, vs, rfl, h2, h3, h4⟩ := I.sl i _ e
    have hn := I.new i _ p e rfl h1
    have hi : i < ρ.length := (List.getElem?_eq_some_iff.mp e).1
    have g0 : Same H0 (upd H0 p (.lst vs)) := upd_grow hn
    have keep : ∀ {q : Addr} {o' : HO}, H0 q = some o' → B.h q = none → Hf q = none := fun {q o'} a1 a2 => by
      cases z : Hf q with
      | none => rfl
      | some o'' =>
        rcases I.ext.n q (by rw [z]; exact fun z => nomatch z) with w | w
        · exact absurd a2 w
        · rw [a1] at w; cases w
    have I' : EnvOk c.K ⟨Hf, fun j => if j = i then .ref p else if B.fx j = .ref p then .non else B.fx j⟩ (upd H0 p (.lst vs)) Hf H σ (ρ.set i (some (.pin xs))) := by
      refine ⟨⟨.refl _, fun b' o' eb => ?_, I.i, fun _ z => .inl z⟩, by rw [List.length_set]; exact I.len, fun j s ej => ?_, fun j s q ej oj es => ?_, fun j l sj sl q ej oj el ol e1 e2 => ?_, fun j ys ej => ?_⟩
      · by_cases z : b' = p
        · subst z; rw [upd_same] at eb; cases eb; exact h2
        · rw [upd_ne z] at eb; exact I.ext.h _ _ eb
      · rcases set_get ej with ⟨rfl, ej, _⟩ | ⟨_, ej⟩
        · cases ej; exact ⟨_, h1, p, vs, rfl, h2, h3, h4⟩
        · exact I.sl j s ej
      · rcases set_get ej with ⟨rfl, ej, _⟩ | ⟨hj, ej⟩
        · cases ej; cases oj
        · have hq : q ≠ p := fun z => hj (I.sep j i _ _ p ej oj e rfl (z ▸ es) h1)
          rw [upd_ne hq]; exact I.new j s q ej oj es
      · rcases set_get ej with ⟨rfl, ej, _⟩ | ⟨hj, ej⟩
        · cases ej; cases oj
        · rcases set_get el with ⟨rfl, el, _⟩ | ⟨hl, el⟩
          · cases el; cases ol
          · exact I.sep j l sj sl q ej oj el ol e1 e2
      · rcases set_get ej with ⟨rfl, ej, _⟩ | ⟨hj, ej⟩
        · exact ⟨p, .lst vs, if_pos rfl, h1, upd_same, h3⟩
        · obtain ⟨q, o', a1, a2, a3, a4⟩ := I.pin j ys ej
          have hq : q ≠ p := fun z => by rw [z, hn] at a3; cases a3
          refine ⟨q, o', ?_, a2, by rw [upd_ne hq]; exact a3, keep a3 a4⟩
          show (if j = i then V.ref p else if B.fx j = .ref p then .non else B.fx j) = .ref q
          rw [if_neg hj, if_neg (by rw [a1]; exact fun z => hq (by cases z; rfl)), a1]
    have back : ∀ {Hf2 H2 : Hp} {σ2 : L2.St} {ρ2 : En} {ys : List D}, EnvOk c.K ⟨Hf, fun j => if j = i then .ref p else if B.fx j = .ref p then .non else B.fx j⟩ (upd H0 p (.lst vs)) Hf2 H2 σ2 ρ2 → ρ2[i]? = some (some (.pin ys)) → EnvOk c.K B H0 Hf2 H2 σ2 (ρ2.set i (some (.ol ys))) := by
      intro Hf2 H2 σ2 ρ2 ys J e2
      obtain ⟨p', o', b1, b2, b3, b4⟩ := J.pin i ys e2
      have b1' : V.ref p = .ref p' := (if_pos rfl).symm.trans b1
      cases b1'
      refine ⟨Ext.deep g0 I.ext J.ext, by rw [List.length_set]; exact J.len, fun j s ej => ?_, fun j s q ej oj es => ?_, fun j l sj sl q ej oj el ol e1 e2' => ?_, fun j zs ej => ?_⟩
      · rcases set_get ej with ⟨rfl, ej, _⟩ | ⟨_, ej⟩
        · cases ej
          obtain ⟨v', c1, c2⟩ := J.sl j (.pin ys) e2
          exact ⟨v', c1, c2⟩
        · exact J.sl j s ej
      · rcases set_get ej with ⟨rfl, ej, _⟩ | ⟨hj, ej⟩
        · rw [b2] at es; cases es; exact hn
        · exact g0.free (J.new j s q ej oj es)
      · rcases set_get ej with ⟨rj, _, _⟩ | ⟨hj, ej2⟩
        · rcases set_get el with ⟨rl, _, _⟩ | ⟨hl, el2⟩
          · rw [rj, rl]
          · rw [rj, b2] at e1; cases e1
            have := J.new l sl p el2 ol e2'
            rw [upd_same] at this; cases this
        · rcases set_get el with ⟨rl, _, _⟩ | ⟨hl, el2⟩
          · rw [rl, b2] at e2'; cases e2'
            have := J.new j sj p ej2 oj e1
            rw [upd_same] at this; cases this
          · exact J.sep j l sj sl q ej2 oj el2 ol e1 e2'
      · rcases set_get ej with ⟨rfl, ej, _⟩ | ⟨hj, ej⟩
        · cases ej
        · obtain ⟨q, o'', a1, a2, a3, a4⟩ := J.pin j zs ej
          have a1' : (if j = i then V.ref p else if B.fx j = .ref p then .non else B.fx j) = .ref q := a1
          rw [if_neg hj] at a1'
          by_cases z : B.fx j = .ref p
          · rw [if_pos z] at a1'; cases a1'
          · rw [if_neg z] at a1'
            have hq : q ≠ p := fun w => z (by rw [a1', w])
            rw [upd_ne hq] at a3
            exact ⟨q, o'', a1', a2, a3, I.ext.f.free a4⟩
    refine .inl ⟨.ref p, h1, p, rfl, ⟨vs, .inl (.inl h2)⟩, loop_pinned hg hb I' (by exact upd_same) h4 ?_⟩
    cases ef : forF k b xs (ρ.set i (some (.pin xs))) with
    | bad => rw [ef] at o; exact o.elim
    | ex n as =>
      rw [ef] at o
      exact fun Hf' H' od y r => (show ExW c B.h H0 n as from o) Hf' H' od (Ext.deep g0 I.ext y) r
    | ok fl =>
      rw [ef, ok_bind] at o
      cases fl with
      | nx ρ2 =>
        unfold unpin at o
        dsimp only at o
        split at o
        · rename_i ys e2
          exact fun Hf2 H2 σ2 J => (show GS c B H0 Dn (.nx (ρ2.set i (some (.ol ys)))) from o) _ _ _ (back J e2)
        · exact o.elim
      | rt r => exact fun v Hf2 H2 y q fr => (show GS c B H0 Dn (.rt r) from o) v Hf2 H2 (Ext.deep g0 I.ext y) q fun ho pp ep => g0.free (fr ho pp ep)
      | bk ρ2 => exact o.elim
      | ct ρ2 => exact o.elim
  · rename_i xs e
    obtain ⟨v, h1, p, vs, rfl, h2, h3, h4⟩ := I.sl i _ e
    obtain ⟨p', o', _, b2, b3, _⟩ := I.pin i xs e
    rw [h1] at b2; cases b2
    have := I.ext.h _ _ b3
    rw [h2] at this; cases this
    exact .inl ⟨.ref p, h1, p, rfl, ⟨vs, .inl (.inl h2)⟩, loop_pinned hg hb I b3 h4 o⟩
  · rename_i xs e
    exact hd _ xs e (.inl rfl) o
  · rename_i xs e
    exact hd _ xs e (.inr rfl) o
  · exact o.elim
end
end Pl
namespace Pl
open PySem PySem.Spec PyProof.Rows L2
/-! ### enumerate of a list or a tuple -/
set_option maxHeartbeats 4000000 in
theorem meets_enum1 {v : Value} {o : Obj} {H : Heap → Prop} (B : Begins v o H) :
    Meets (Builtin.«enumerate.__new__» ⟨[.type "enumerate", v], []⟩) (fun _ R s => H s.heap ∧
      R (.ok (.ret (.ref (s.heap.push o).objs.size))) { s with heap := (s.heap.push o).push { cls := .type "enumerate", data := .fields #[.none, .bool false, .ref s.heap.objs.size, rawInt 0, .none, .none] } }) :=
  .of_wp fun prog w A R s h => by
    obtain ⟨hp, g, d, tk, os⟩ := s; obtain ⟨h1, h⟩ := h
    have hsub := sub_enumerate
    have q1 : ∀ {A' : Around} {E : Value → Shared → Prop} {Q : Value → Shared → Prop}, Q (.ref hp.objs.size) ⟨hp.push o, g, d, tk, os⟩ → wpAny (model prog w) A' (pyIter v) Q E ⟨hp, g, d, tk, os⟩ :=
      fun q => B.iter prog w _ _ ⟨hp, g, d, tk, os⟩ _ h1 q
    wp_walk using q1
    refine wpAny_stack_any fun st => wpAny_pure ?_
    split
    · rename_i c _ _ _ _ _
      cases (c == Value.type "enumerate")
      · wp_walk using q1
        exact ⟨_, rfl, h⟩
      · wp_walk using q1
        exact ⟨_, rfl, h⟩
    · wp_walk using q1
      exact ⟨_, rfl, h⟩
theorem call_enum1 {prog : Program} {w : World} {A : Around} {E : Value → Shared → Prop} {s : Shared} {v : Value} {o : Obj} {H : Heap → Prop} {Q : Value → Shared → Prop} (B : Begins v o H) (h1 : H s.heap)
    (h : ∀ h', IsEnum h' (s.heap.objs.size + 1) s.heap.objs.size 0 .none → h'.get? s.heap.objs.size = some o → h'.objs.size = s.heap.objs.size + 2 →
      (∀ b o, s.heap.get? b = some o → h'.get? b = some o) → Q (.ref (s.heap.objs.size + 1)) { s with heap := h' }) :
    wpAny (model prog w) A (call (.type "enumerate") [v]) Q E s := by
  refine callType_new F.called_enumerate (by decide) (F.typeCall_enumerate_1 _) (F.newCall_enumerate_1 _) (fun obj => F.args_object_init_2 obj _) F.entry_enumerate_new
    (meets_enum1 B) ⟨h1, ?_⟩
  have hz : (s.heap.push o).objs.size = s.heap.objs.size + 1 := Heap.size_push ..
  show _ ∧ _
  rw [hz]
  have he : IsEnum ((s.heap.push o).push { cls := .type "enumerate", data := .fields #[.none, .bool false, .ref s.heap.objs.size, rawInt 0, .none, .none] }) (s.heap.objs.size + 1) s.heap.objs.size 0 .none := by
    have := Heap.get?_push_size (s.heap.push o) (o := { cls := .type "enumerate", data := .fields #[.none, .bool false, .ref s.heap.objs.size, rawInt 0, .none, .none] }) rfl
    rw [hz] at this; exact this
  refine ⟨⟨_, he, rfl⟩, h _ he (Heap.get?_push_of_some _ (Heap.get?_push_size _ B.free)) (by rw [Heap.size_push, hz]) fun b o x => Heap.get?_push_of_some _ (Heap.get?_push_of_some _ x)⟩
/-- the tuple at a, each item in a new pair -/
def Itet (K : PySem.W.Frag) (a : Addr) : It :=
  ⟨fun i H => ∃ (xs : List V) (x : V), SqT K H a xs ∧ xs[i]? = some x, fun i H v H' => ∃ T x, v = .ref T ∧ H T = none ∧ H' = upd H T (.tup [.int (i : Nat), x]) ∧ ∀ xs, SqT K H a xs → xs[i]? = some x, fun i H => ∃ xs : List V, SqT K H a xs ∧ xs.length = i⟩
theorem turn_enumT {P : Program} {w : World} {K : PySem.W.Frag} {elts : List Expr} {kk : Nat} {tpos : Pos} (a e it : Addr) :
    Turn P w K (.Tuple elts kk tpos) (Itet K a) [e, it] e (fun i h => (∃ old, IsEnum h e it ((i : Nat) : Int) old) ∧ h.IsTupleIter it a i ∧ e ≠ it ∧ a ≠ it ∧ e ≠ a) where
  mem := by simp
  obj := fun i h st b hb => by
    obtain ⟨⟨old, he⟩, ⟨o, ho, hc, hd⟩, _⟩ := st
    have e' : b = e ∨ b = it := by simpa using hb
    rcases e' with z | z
    · rw [z]; exact ⟨_, he, fun v q => nomatch q⟩
    · rw [z]; exact ⟨o, ho, fun v q => by rw [hd] at q; cases q⟩
  keep := fun i h h' st k => let ⟨⟨old, he⟩, hi, hne⟩ := st; ⟨⟨old, k e (by simp) _ he⟩, hi.at fun o q => k it (by simp) o q, hne⟩
  item := by
    intro X hP hw hK hc i pins s σ H E I hf st hg
    subst hP hw hK
    obtain ⟨⟨old, he⟩, hit, hne, hai, hea⟩ := st
    obtain ⟨xs, x, hq, hx⟩ := hg
    obtain ⟨its, rv, p, hz⟩ := I.tuple hq
    obtain ⟨u, hu, ru⟩ := rv.get hx
    have hel : e < s.heap.objs.size := Heap.lt_size he
    have hil : it < s.heap.objs.size := by obtain ⟨_, q, _⟩ := hit; exact Heap.lt_size q
    have p' : s.heap.IsTuple a its.toArray := p
    have hlt : i < its.toArray.size := by
      have := (List.getElem?_eq_some_iff.mp hu).1
      simpa using this
    refine wpAny_pyNext_enum_itemD (Draws.tuple (A := X.A.in1) (I.ok.hd hc) it a hai its.toArray) he ⟨hit, p'⟩ hlt hne (by simp [hne, hea]) fun u' h' tk hP' ho st' hT hsz hk => ?_
    have eu : u' = u := by
      rw [show its.toArray[i]? = its[i]? by simp] at hP'
      rw [hu] at hP'; exact (Option.some.inj hP').symm
    subst eu
    refine ⟨_, rfl, wpAny_letOwnedTupleGo_enum (s := { s with heap := h', toks := tk + 1 }) ho fun h'' he' sb => ?_⟩
    have hT2 : h''.get? s.heap.objs.size = some { cls := .type "tuple", data := .seq #[.int i tk, u'] } := (sb.2 _ (Nat.ne_of_gt hel)).trans hT
    have new : ObjOk X.prog X.w (upd H s.heap.objs.size (.tup [.int (i : Nat), x])) h'' s.heap.objs.size (.tup [.int (i : Nat), x]) :=
      ⟨by show 2 ≤ sizeLine; decide, [.int i tk, u'], .cons ⟨_, rfl⟩ (.cons ru .nil), ⟨_, hT2, rfl, _, rfl⟩⟩
    have I1 : Inv X pins σ (upd H s.heap.objs.size (.tup [.int (i : Nat), x])) { s with heap := h'', toks := tk + 1 } :=
      I.turnedNew (ch := [e, it]) (fun b ob hb q => (sb.2 b (fun z => hb (by simp [z]))).trans (hk b ob (fun z => hb (by simp [z])) (fun z => hb (by simp [z])) q)) hf (Nat.le_refl _) new
    refine ⟨.ref s.heap.objs.size, _, I1, rfl, ⟨_, x, rfl, I.hok.fresh (Nat.le_refl _), rfl, fun ys hy => by rw [I.tuple_inj hy hq]; exact hx⟩, ⟨⟨u', ?_⟩, st'.1.at fun o q => (sb.2 it (Ne.symm hne)).trans q, hne, hai, hea⟩, fun b hb => ?_⟩
    · have e1 : ((i + 1 : Nat) : Int) = (i : Int) + 1 := by omega
      rw [e1]; exact he'
    · have hb' : b < s.heap.objs.size := by
        have e' : b = e ∨ b = it := by simpa using hb
        rcases e' with z | z
        · rw [z]; exact hel
        · rw [z]; exact hil
      rw [upd_ne (Nat.ne_of_lt hb')]
      exact (hf b hb).1
  done := by
    intro X hP hw hK hc i pins s σ H E I hf st hg
    subst hP hw hK
    obtain ⟨⟨old, he⟩, hit, hne, hai, hea⟩ := st
    obtain ⟨xs, hq, hx⟩ := hg
    obtain ⟨its, rv, p, hz⟩ := I.tuple hq
    obtain ⟨f0, f1, f2, f3, f4, f5⟩ := hf it (by simp)
    have hl := rv.length
    have p' : s.heap.IsTuple a its.toArray := p
    have hi : its.toArray.size = i := by simp; omega
    exact wpAny_pyNext_enum_endD (n := its.toArray.size) (Draws.tuple (A := X.A.in1) (I.ok.hd hc) it a hai its.toArray) he ⟨hi ▸ hit, p'⟩ fun h' eb => ⟨rfl, I.turned (t' := s.toks) (fun b o hb q => eb b o hb q) f0 f1 f3 f4 f5⟩
  self := fun A i s Q E st h => let ⟨⟨_, he⟩, _⟩ := st; wpAny_pyIter_enum he h
def iEnumT (K : PySem.W.Frag) (ta : TA) : TI := fun σ H R => ta σ H fun vs H1 => ∃ a xs, vs = [.ref a] ∧ SqT K H1 a xs ∧ R (Itet K a) H1
theorem pi_enumT {X : Cx} {e : Expr} {ta : TA} {p pos tpos : Pos} {elts : List Expr} {kk : Nat} (hg : Gl X "enumerate") (hm : X.mg "enumerate" = none) (ha : PA X [e] ta) (hs : starEach [e] X.env = [(false, eval e X.env)] := by rfl) :
    PI X (.Tuple elts kk tpos) (.Call (.Name "enumerate" p) [e] [] pos) (iEnumT X.K ta) := by
  refine ⟨fun pins s σ H R I h => ?_⟩
  refine Call_ (ld_blt I hg hm boot_enumerate (PyProof.Rows.callWith_type1 (thn (ha.run pos pins s σ H _ I h) fun us s1 ⟨vs, H1, I1, r1, q1⟩ => ?_) hs rfl))
  obtain ⟨a, xs, ex, hq, q⟩ := q1
  subst ex
  cases r1 with
  | cons r rr =>
    cases rr
    cases r
    obtain ⟨its, rv, p', hz⟩ := I1.tuple hq
    have p2 : s1.heap.IsTuple a its.toArray := p'
    have hal : a < s1.heap.objs.size := by obtain ⟨_, q, _⟩ := p2; exact Heap.lt_size q
    refine call_enum1 (begins_tuple a its.toArray) p2 fun h' he hit hsz hk => wpAny_pyIter_enum he ?_
    have I2 : Inv X pins σ H1 { s1 with heap := h' } := I1.kept (t' := s1.toks) hk
    refine ⟨s1.heap.objs.size + 1, [s1.heap.objs.size + 1, s1.heap.objs.size], _, _, H1, rfl, I2, turn_enumT a (s1.heap.objs.size + 1) s1.heap.objs.size, ⟨⟨.none, he⟩, ⟨_, hit, rfl, rfl⟩, Nat.succ_ne_self _, Nat.ne_of_lt hal, Nat.ne_of_gt (Nat.lt_succ_of_lt hal)⟩, fun b hb => ?_, q⟩
    have e' : b = s1.heap.objs.size + 1 ∨ b = s1.heap.objs.size := by simpa using hb
    have hle : s1.heap.objs.size ≤ b := by
      rcases e' with z | z
      · rw [z]; exact Nat.le_add_right _ _
      · rw [z]; exact Nat.le_refl _
    exact I1.fpOk hle (I1.hok.fresh hle)
theorem walk_enumT {K : PySem.W.Frag} {a : Addr} {xs : List V} : Walk (Itet K a) xs.length (fun H => SqT K H a xs) (YPair (fun i => some (.int (i : Nat))) (fun i => xs[i]?)) :=
  ⟨fun i H hi h => ⟨xs, xs[i], h, List.getElem?_eq_getElem hi⟩, fun H h => ⟨xs, h, rfl⟩, fun i H x H' hi h y => by
    obtain ⟨T, z, e1, e2, e3, e4⟩ := y
    exact ⟨T, .int (i : Nat), z, e1, e2, e3, rfl, e4 xs h⟩⟩
section
variable {c : Ct}
def pairUp (xs : List D) : List D := (List.range xs.length).zipWith (fun i x => .tuple [.int (i : Nat), x]) xs
theorem pairUp_at {xs : List D} {i : Nat} {x : D} (h : xs[i]? = some x) : (pairUp xs)[i]? = some (.tuple [.int (i : Nat), x]) := by
  unfold pairUp
  have hi : i < xs.length := (List.getElem?_eq_some_iff.mp h).1
  rw [List.getElem?_zipWith, List.getElem?_range hi, h]
@[simp] theorem pairUp_len (xs : List D) : (pairUp xs).length = xs.length := by unfold pairUp; simp
theorem walks_pair {K : PySem.W.Frag} {J : It} {Hf : Hp} {vs : List V} {xs : List D} (h : DpAll K Hf vs xs) (w : Walk J vs.length (fun H => Same Hf H) (YPair (fun i => some (.int (i : Nat))) (fun i => vs[i]?))) : Walks K J Hf (pairUp xs) := by
  refine ⟨_, by rw [pairUp_len, ← dpAll_len h]; exact w, fun i H x H' Hfi hi s1 s2 y => ?_⟩
  obtain ⟨T, a, b, rfl, e2, rfl, e4, e5⟩ := y
  cases e4
  obtain ⟨d, d1, d2⟩ := dpAll_getV h e5
  have hn : Hfi T = none := s2.free e2
  have g := upd_grow (o := .tup [V.int (i : Nat), b]) hn
  exact ⟨_, upd Hfi T (.tup [.int (i : Nat), b]), pairUp_at d1, Ext.laid s2 e2, .tup (.inl (.inl upd_same)) (.cons (.int _) (.cons (dp_mono g (dp_mono s1 d2)) .nil))⟩
def enumD (f : En → R SV) : En → R (List D) := fun ρ => f ρ >>= fun a => match a with
  | .d (.list xs) => .ok (pairUp xs)
  | .ol xs => .ok (pairUp xs)
  | .d (.tuple xs) => .ok (pairUp xs)
  | _ => .bad
abbrev iEnumA (K : PySem.W.Frag) (ta : TA) : TI := fun σ H Rr => iEnum K ta σ H Rr ∨ iEnumT K ta σ H Rr
theorem pi_enumA {X : Cx} {e : Expr} {ta : TA} {p pos tpos : Pos} {elts : List Expr} {kk : Nat} (hg : Gl X "enumerate") (hm : X.mg "enumerate" = none) (ha : PA X [e] ta) (hs : starEach [e] X.env = [(false, eval e X.env)] := by rfl) :
    PI X (.Tuple elts kk tpos) (.Call (.Name "enumerate" p) [e] [] pos) (iEnumA X.K ta) := Pl.PI.or (pi_enum hg hm ha hs) (pi_enumT hg hm ha hs)
theorem sem_enum {te : TE} {f : En → R SV} (h : SemE c true te f) : SemI c (iEnumA c.K (tCons te tNil)) (enumD f) := by
  intro B H0 Hf H σ ρ Rr I o
  have lists : ∀ (r : SV) (xs : List D), (r = .d (.list xs) ∨ r = .ol xs) → f ρ = .ok r → (∀ J Hf' H', Ext Hf H Hf' H' → Walks c.K J Hf' (pairUp xs) → Rr J H') → iEnumA c.K (tCons te tNil) σ H Rr := by
    intro r xs er ef k
    refine .inl (h B H0 Hf H σ ρ _ I ?_)
    rw [ef]
    intro v Hf1 H1 x1 q1 fr
    obtain ⟨Hf2, x2, q2⟩ := froze (d := .list xs) x1 q1 (fr rfl) (by rcases er with rfl | rfl <;> rfl)
    cases q2 with
    | lst s1 s2 => exact ⟨_, _, rfl, x2.i.seq s1, k _ Hf2 H1 x2 (walks_pair s2 (walk_enum.mono (fun H e => e.seq s1) fun _ _ _ _ _ _ y => y))⟩
  unfold enumD at o
  cases ef : f ρ with
  | bad => rw [ef] at o; exact o.elim
  | ex n as =>
    rw [ef] at o
    refine .inl (h B H0 Hf H σ ρ _ I ?_)
    rw [ef]; exact o
  | ok r =>
    rw [ef, ok_bind] at o
    split at o
    · exact lists _ _ (.inl rfl) ef o
    · exact lists _ _ (.inr rfl) ef o
    · refine .inr (h B H0 Hf H σ ρ _ I ?_)
      rw [ef]
      intro v Hf1 H1 x1 q1 fr
      cases q1 with
      | tup s1 s2 => exact ⟨_, _, rfl, sqT_mono x1.i s1, (show ∀ J Hf' H', Ext Hf H Hf' H' → Walks c.K J Hf' _ → Rr J H' from o) _ Hf1 H1 x1 (walks_pair s2 (walk_enumT.mono (fun H e => sqT_mono e s1) fun _ _ _ _ _ _ y => y))⟩
    · exact o.elim
/-! ### a written list, times -/
def repS (a b : SV) : R SV := match a, b with
  | .ol xs, .d (.int n) => if 0 ≤ n ∧ n ≤ 1000 ∧ xs.length ≤ 1000 then .ok (.ol (List.replicate n.toNat xs).flatten) else .bad
  | _, _ => .bad
theorem dpAll_rep {K : PySem.W.Frag} {H : Hp} {vs : List V} {ds : List D} (h : DpAll K H vs ds) : ∀ n : Nat, DpAll K H (List.replicate n vs).flatten (List.replicate n ds).flatten
  | 0 => .nil
  | n + 1 => by
    rw [List.replicate_succ, List.replicate_succ, List.flatten_cons, List.flatten_cons]
    exact dpAll_append h (dpAll_rep h n)
theorem r2_rep : R2ok c rRep repS := by
  intro Hf H x y rx ry Q i hx hy o
  unfold repS at o
  split at o
  rotate_left
  · exact o.elim
  rename_i xs n
  split at o
  rotate_left
  · exact o.elim
  rename_i hn
  cases hy
  obtain ⟨p, vs, rfl, h1, h2, h3⟩ := hx
  have hz := sizeLine_eq
  have hl := dpAll_len h3
  have hm : vs.length * n.toNat ≤ 1000 * 1000 := Nat.mul_le_mul (by omega) (by omega)
  exact ⟨p, n, vs, rfl, rfl, h1, by omega, by omega, by omega, fun q hq => GE.newL (show GE c true Hf H Q (.ol _) from o) i hq (dpAll_rep h3 _)⟩
end
end Pl
namespace Pl
open PySem PySem.Spec PyProof.Rows L2
/-! ### math.lcm -/
theorem lcm_le (m n : Nat) : m.lcm n ≤ m * n := by
  unfold Nat.lcm
  exact Nat.div_le_self _ _
theorem run_lcm {prog : Program} {w : World} {A : Around} {E : Value → Shared → Prop} {s : Shared} {Q : Value → Shared → Prop} {a b : Int} {t u : Tok} (ha : a.natAbs < 2 ^ 200) (hb : b.natAbs < 2 ^ 200) (h : Q (.int ((a.natAbs.lcm b.natAbs : Nat) : Int) s.toks) { s with toks := s.toks + 1 }) :
    wpAny (model prog w) A (call (.builtin "math.lcm") [.int a t, .int b u]) Q E s := by
  have h1 : (max 1 a.natAbs).log2 ≤ 199 := PySem.W.mg_log (by rw [Nat.max_lt]; exact ⟨by decide, ha⟩)
  have h2 : (max a.natAbs b.natAbs).log2 ≤ 199 := PySem.W.mg_log (by rw [Nat.max_lt]; exact ⟨ha, hb⟩)
  have e : Nat.lcm 1 a.natAbs = a.natAbs := PySem.W.mc_lcm_one _
  have hsz : (((((Nat.lcm 1 a.natAbs).lcm b.natAbs : Nat) : Int)).natAbs.log2 < bitsLine) := by
    rw [e]
    exact PySem.W.mc_size (k := 7) (Nat.le_trans (lcm_le _ _) (Nat.le_trans (Nat.mul_le_mul (Nat.le_of_lt ha) (Nat.le_of_lt hb)) (by
      rw [← Nat.pow_add]
      exact Nat.pow_le_pow_right (by decide) (by decide)))) (by decide)
  refine call_function_meets PySem.W.MGF.kind_lcm PySem.W.MGF.plain_lcm PySem.W.MGF.entry_lcm (PySem.W.MGF.args_lcm _ _) (PySem.W.mg_run_lcm a t b u (by omega) (by omega) hsz).meets ?_
  rw [e]; exact h
def rLcm : List V → Hp → VK → Prop := fun vs H Q => ∃ a b : Int, vs = [.int a, .int b] ∧ a.natAbs < 2 ^ 200 ∧ b.natAbs < 2 ^ 200 ∧ Q (.int ((Nat.lcm a.natAbs b.natAbs : Nat) : Int)) H
theorem cr_lcm {X : Cx} : CallR X (.builtin "math.lcm") rLcm := by
  intro pins s σ H vs us Q I r h
  obtain ⟨a, b, rfl, ha, hb, q⟩ := h
  obtain ⟨t, u, rfl⟩ := Vals.int2 r
  exact run_lcm ha hb ⟨.int _, H, I.tok _, ⟨_, rfl⟩, q⟩
section
variable {c : Ct}
def okB (j : Int) : Bool := Nat.blt j.natAbs 100000000000000000000000000000000000000000000000000
theorem okB_of {j : Int} (h : j.natAbs < 100000000000000000000000000000000000000000000000000) : okB j = true := by
  unfold okB; rw [Nat.blt_eq]; exact h
def lcmS : List SV → R SV
  | [.d (.int a), .d (.int b)] => if okB a = true ∧ okB b = true then .ok (.d (.int ((Nat.lcm a.natAbs b.natAbs : Nat) : Int))) else .bad
  | _ => .bad
theorem okB_nat {j : Int} (h : okB j = true) : j.natAbs < 2 ^ 200 := Nat.lt_trans (of_decide_eq_true (by unfold okB at h; rw [Nat.blt_eq] at h; exact decide_eq_true h)) (by decide)
theorem c1_lcm : C1ok c rLcm lcmS := by
  intro Hf H vs rs Q i hr o
  unfold lcmS at o
  split at o
  rotate_left
  · exact o.elim
  rename_i a b
  split at o
  rotate_left
  · exact o.elim
  rename_i hk
  cases hr with
  | cons h1 h2 =>
    cases h2 with
    | cons h2 h3 =>
      cases h3; cases h1; cases h2
      exact ⟨a, b, rfl, okB_nat hk.1, okB_nat hk.2, GE.now (show GE c true Hf H Q (.d _) from o) i (.int _)⟩
end
end Pl
/-! PlB: own exceptions: raise C(), try with one statement, isinstance of a caught error. -/
namespace L2
open PySem PySem.Spec PyProof.Rows
/-- C() of an own class without own __init__ -/
theorem pmk_own0 {X : Cx} {C : Addr} {bmB : List Value} {B newId initId : String} {x : Str} {p pos : Pos} (F : ExcBaseFacts B newId initId bmB) (q : PySem.W.excIn X.K C bmB newId = true) (gC : X.mg x = some (.ref C)) (kC : PySem.W.keepIn X.K (.ref C) = true) (r : Raises X (.ref C)) (hg : Gl X x)
    (hdb : (x == ("__debug__" : Str)) = false := by decide) : PMk X (.Call (.Name x p) [] [] pos) (fun _ H Q => Q (.ref C) none H) := by
  intro pins s σ H Q I h
  refine wpAny_Call_Name_kw (ld_glob I hg gC ?_ hdb)
  refine PySem.W.callWith_K0 I.kIn kC ?_
  obtain ⟨bm, N, nm, qn, bs, hdct, sn, sub, ab, col, dd, k0, k1, k2, k3, k5, mN, hC, hN, hni, T⟩ := exc_obj I.kIn q
  exact wpAny_call_exc_subT F T hC hN hni (fun h' e hm => mk_of I hm r h (I.hok.gone hm.new)) (Nat.zero_le _)
/-- isinstance(e, c), e the exception that the suite holds, of a class with no fields of its own -/
def rIsX (K : PySem.W.Frag) (cls : Value) (d : Option Addr) (a : Addr) : List V → Hp → VK → Prop := fun xs H Q => ∃ (D : Addr) (c : V) (cv : Value) (b : Bool), cls = .ref D ∧ d = none ∧ ExcC K D ∧ xs = [.ref a, c] ∧ (∀ u, RelV c u → u = cv) ∧ PySem.W.kitOne K (.ref D) cv = some b ∧ Q (.bl b) H
theorem call_isX {X : Cx} {a : Addr} {cls : Value} {d : Option Addr} {oe : Obj} {pn : List (Addr × Obj)} (hz : Zc cls d oe) (hf : ∃ vs, oe.data = .fields vs) : CallR (X.suite a ((a, oe) :: pn)) (.builtin "isinstance") (rIsX X.K cls d a) := by
  intro pins s σ H xs us Q I r h
  obtain ⟨D, c, cv, b, rfl, rfl, C, rfl, hcv, e, q⟩ := h
  exact call_isE C hz hf pins s σ H _ us Q I r ⟨c, cv, b, rfl, hcv, e, q⟩
end L2
namespace Pl
open PySem PySem.Spec PyProof.Rows L2
/-! ### the readings by name -/
def tTryAs (K : PySem.W.Frag) (cl : Value) (i : Nat) (tb : WX → TS) (ts : Addr → Value → Option Addr → TS) (Wout : WX) : TS := fun D σ H => tb (wAs K cl i ts Wout D) D σ H
def tTryOn (K : PySem.W.Frag) (cl : Value) (tb : WX → TS) (ts : Addr → Value → Option Addr → TS) (Wout : WX) : TS := fun D σ H => tb (wOnly K cl ts Wout D) D σ H
def tRaise (C : Addr) (E : XK) : TS := fun _ _ H => E (.ref C) none H
def tCallE (sp : Sp) (E : XK) (t : TA) : TE := fun σ H Q => t σ H fun vs H1 => sp vs H1 Q E
def tIsE (K : PySem.W.Frag) (i : Nat) (C a : Addr) (cls : Value) (d : Option Addr) : TE := tCB (rIsX K cls d a) (tCons (tVar i) (tCons (tC (.ref C)) tNil))
/-! ### a def that may raise -/
section
variable {P : Program} {w : World} {K : PySem.W.Frag} {mg : Str → Option Value} {base : Heap}
theorem mk_okX {x qual : Str} {st : Stmt} {f : Addr} {fd : FuncData} {N ps : List Str} {k : Nat} {cm : Nat → Addr × List Str} {b : En → R Fl} (F : Fun K x qual st f fd) (S : FnScope N ps (defScope st))
    (hb : ∀ (cdv : Value) (A : Around) (outer : List Env) (s : Shared) (H : Hp) (E : XK), Room k (A.deeper (envOfC qual (defScope st) s.heap.objs.size f cdv)) →
      ∃ t, PSs (cxOf (L2.CX P w) P w K mg base N qual (defScope st) f cdv A outer s H E) (defBody st) t ∧ ∀ ex : Exi, SemS ⟨⟨K, ex⟩, cm, E⟩ t b) :
    FnOk P w K mg base (L2.CX P w) (k + 1) f fd ps (spF K cm ps.length (runB ps.length N.length b)) := by
  refine F.okX S (fun vs H Q E h => h.1) fun cdv A outer s H vs Q E hr h => ?_
  obtain ⟨t, h1, h2⟩ := hb cdv A outer s H E hr
  exact ⟨t, h1, body_ok (ps := ps) h2 h⟩
/-- what a callee lets out, this def lets out -/
theorem passX {N : List Str} {qual : Str} {sc : Scope} {f : Addr} {cdv : Value} {A : Around} {outer : List Env} {s : Shared} {H : Hp} {E : XK} : Passes (L2.CX P w) (cxOf (L2.CX P w) P w K mg base N qual sc f cdv A outer s H E) E :=
  passes_call (takes_of rfl rfl rfl rfl) fun _ _ _ _ h => h
end
/-- a class of exceptions of the text: n is its number -/
structure Xc (K : PySem.W.Frag) (mg : Str → Option Value) (x : Str) (C : Addr) : Prop where
  g : mg x = some (.ref C)
  e : PySem.W.excIn K C [.type "ValueError", .type "Exception", .type "BaseException", .type "object"] "ValueError.__new__" = true
  k : PySem.W.keepIn K (.ref C) = true
  b : PySem.W.subIn K (.ref C) (.type "BaseException") = some true
  t : PySem.W.typeIn K (.ref C) = some (.type "type")
section
variable {c : Ct}
/-! ### raise -/
def raiseS (n : Nat) : En → R Fl := fun _ => .ex n []
theorem sem_raise {n : Nat} {C : Addr} (hC : c.cm n = (C, [])) : SemS c (fun _ _ H => c.E (.ref C) none H) (raiseS n) := by
  intro B H0 Hf H σ ρ Dn I o
  have z := (show ExW c B.h H0 n [] from o) Hf H none I.ext ⟨rfl, by rw [hC]⟩
  rw [hC] at z
  exact z
/-! ### try -/
def SV.plain : SV → Bool
  | .d _ => true
  | _ => false
/-- the slots without what this frame owns -/
def bareE (ρ : En) : En := ρ.map fun s => match s with
  | some (.d x) => some (.d x)
  | _ => none
theorem bareE_get {ρ : En} {i : Nat} {s : SV} (e : (bareE ρ)[i]? = some (some s)) : ∃ x, s = .d x ∧ ρ[i]? = some (some (.d x)) := by
  unfold bareE at e
  rw [List.getElem?_map] at e
  cases h : ρ[i]? with
  | none => rw [h] at e; cases e
  | some r =>
    rw [h] at e
    cases r with
    | none => cases e
    | some r =>
      cases r with
      | d x => cases e; exact ⟨x, rfl, rfl⟩
      | ol _ => cases e
      | od _ => cases e
      | pin _ => cases e
      | exn _ _ => cases e
      | pd _ => cases e
theorem EnvOk.bareE {K K' : Kx} {B : Bs} {H0 Hf H : Hp} {σ : L2.St} {ρ : En} (hk : K'.k = K.k) (I : EnvOk K B H0 Hf H σ ρ) : EnvOk K' ⟨Hf, fun _ => .non⟩ H Hf H σ (bareE ρ) := by
  refine ⟨.refl I.i, by rw [I.len]; simp [Pl.bareE], fun i s e => ?_, fun i s p e o => ?_, fun i j si sj p e o => ?_, fun i xs e => ?_⟩
  · obtain ⟨x, rfl, h⟩ := bareE_get e
    obtain ⟨v, h1, h2⟩ := I.sl i _ h
    exact ⟨v, h1, by show Dp K'.k Hf v x; rw [hk]; exact h2⟩
  · obtain ⟨x, rfl, _⟩ := bareE_get e; cases o
  · obtain ⟨x, rfl, _⟩ := bareE_get e; cases o
  · obtain ⟨x, z, _⟩ := bareE_get e; cases z
def noPin (ρ : En) : Bool := ρ.all fun s => match s with
  | some r => r.npin
  | none => true
theorem noPin_get {ρ : En} (h : noPin ρ = true) {i : Nat} {s : SV} (e : ρ[i]? = some (some s)) : s.npin = true :=
  List.all_eq_true.mp h _ (List.mem_of_getElem? e)
/-- what may leave a try -/
def fenceF : Fl → R Fl
  | .nx ρ => if noPin ρ = true then .ok (.nx ρ) else .bad
  | .rt r => if r.npin = true then .ok (.rt r) else .bad
  | _ => .bad
/-- .. and its suite: the error's name goes -/
def outF (i : Nat) : Fl → R Fl
  | .nx ρ => fenceF (.nx (ρ.set i none))
  | z => fenceF z
/-- try: b except C as n: h; n in slot i; hit: which errors are caught -/
def tryAs (i : Nat) (hit : Nat → Bool) (b h : En → R Fl) : En → R Fl := fun ρ => match b (bareE ρ) with
  | .ok fl => fenceF fl
  | .bad => .bad
  | .ex n as => if hit n = true then (h ((bareE ρ).set i (some (.exn n as))) >>= outF i) else .bad
/-- try: b except C: h -/
def tryOn (hit : Nat → Bool) (b h : En → R Fl) : En → R Fl := fun ρ => match b (bareE ρ) with
  | .ok fl => fenceF fl
  | .bad => .bad
  | .ex n as => if hit n = true then (h (bareE ρ) >>= fenceF) else .bad
theorem RepR.swap {K K' : Kx} (hk : K'.k = K.k) {Hf H : Hp} {v : V} : ∀ {r : SV}, r.npin = true → RepR K' Hf H v r → RepR K Hf H v r
  | .d x, _, h => by have h' : Dp K'.k Hf v x := h; rw [hk] at h'; exact h'
  | .ol xs, _, h => by
    obtain ⟨p, vs, e, h1, h2, h3⟩ := h
    rw [hk] at h3
    exact ⟨p, vs, e, h1, h2, h3⟩
  | .od xs, _, h => by
    obtain ⟨p, vs, e, h1, h2, h3⟩ := h
    rw [hk] at h3
    exact ⟨p, vs, e, h1, h2, h3⟩
  | .pin _, z, _ => by cases z
  | .exn _ _, z, _ => by cases z
  | .pd _, z, _ => by cases z
theorem EnvOk.swap {K K' : Kx} (hk : K'.k = K.k) {B : Bs} {H0 Hf H Hf2 H2 : Hp} {σ : L2.St} {ρ : En} (x : Ext B.h H0 Hf H) (np : noPin ρ = true) (I : EnvOk K' ⟨Hf, fun _ => .non⟩ H Hf2 H2 σ ρ) : EnvOk K B H0 Hf2 H2 σ ρ :=
  ⟨x.trans I.ext, I.len, fun i r e => let ⟨v, h1, h2⟩ := I.sl i r e; ⟨v, h1, h2.swap hk (noPin_get np e)⟩, fun i s p e z q => x.h.free (I.new i s p e z q), I.sep, fun i xs e => by cases noPin_get np e⟩
theorem GS.fenced {c c' : Ct} (hk : c'.K.k = c.K.k) {B : Bs} {H0 Hf H : Hp} {Dn : Ends} (x : Ext B.h H0 Hf H) : ∀ {fl : Fl}, Out c B.h H0 (fenceF fl) (GS c B H0 Dn) → GS c' ⟨Hf, fun _ => .non⟩ H Dn fl
  | .nx ρ, o => by
    have o' : Out c B.h H0 (if noPin ρ = true then R.ok (Fl.nx ρ) else R.bad) (GS c B H0 Dn) := o
    cases np : noPin ρ with
    | false => rw [np] at o'; exact o'.elim
    | true =>
      rw [np] at o'
      intro Hf2 H2 σ2 I
      exact (show GS c B H0 Dn (.nx ρ) from o') Hf2 H2 σ2 (I.swap hk x np)
  | .rt r, o => by
    have o' : Out c B.h H0 (if r.npin = true then R.ok (Fl.rt r) else R.bad) (GS c B H0 Dn) := o
    cases np : r.npin with
    | false => rw [np] at o'; exact o'.elim
    | true =>
      rw [np] at o'
      exact fun v Hf2 H2 y q fr => (show GS c B H0 Dn (.rt r) from o') v Hf2 H2 (x.trans y) (q.swap hk np) fun z p e => x.h.free (fr z p e)
  | .bk _, o => o.elim
  | .ct _, o => o.elim
/-- the ends of the suite -/
abbrev endsA (i : Nat) (D : Ends) : Ends := { nx := fun σ' H' => D.nx (σ'.set i none) H', rt := D.rt, bk := fun σ' H' => D.bk (σ'.set i none) H', ct := fun σ' H' => D.ct (σ'.set i none) H' }
theorem EnvOk.goes {K : Kx} {B : Bs} {H0 Hf H : Hp} {σ : L2.St} {ρ : En} (i : Nat) (I : EnvOk K B H0 Hf H σ ρ) : EnvOk K B H0 Hf H (σ.set i none) (ρ.set i none) := by
  have ne : ∀ {j : Nat} {s : SV}, (ρ.set i none)[j]? = some (some s) → j ≠ i ∧ ρ[j]? = some (some s) := fun {j s} e => by
    rcases set_get e with ⟨_, e, _⟩ | ⟨hj, e⟩
    · cases e
    · exact ⟨hj, e⟩
  have at_ : ∀ {j : Nat} {s : SV}, (ρ.set i none)[j]? = some (some s) → (σ.set i none)[j]? = σ[j]? := fun {j s} e => List.getElem?_set_ne (Ne.symm (ne e).1)
  refine ⟨I.ext, by rw [List.length_set, List.length_set, I.len], fun j s e => ?_, fun j s p e o es => ?_, fun j k sj sk p ej oj ek ok e1 e2 => ?_, fun j xs e => ?_⟩
  · rw [at_ e]; exact I.sl j s (ne e).2
  · rw [at_ e] at es; exact I.new j s p (ne e).2 o es
  · rw [at_ ej] at e1; rw [at_ ek] at e2; exact I.sep j k sj sk p (ne ej).2 oj (ne ek).2 ok e1 e2
  · rw [at_ e]; exact I.pin j xs (ne e).2
/-- the error's name is set -/
theorem EnvOk.held {K : Kx} {B : Bs} {H0 Hf H : Hp} {σ : L2.St} {ρ : En} {i : Nat} {v : V} {n : Nat} {as : List D} (I : EnvOk K B H0 Hf H σ ρ) (q : RepR K Hf H v (.exn n as)) : EnvOk K B H0 Hf H (σ.set i (some v)) (ρ.set i (some (.exn n as))) := by
  refine ⟨I.ext, by rw [List.length_set, List.length_set, I.len], fun j s e => ?_, fun j s p e o es => ?_, fun j k sj sk p ej oj ek ok e1 e2 => ?_, fun j xs e => ?_⟩
  · rcases set_get e with ⟨rfl, e, hl⟩ | ⟨hj, e⟩
    · cases e
      exact ⟨v, List.getElem?_set_self (by rw [I.len]; exact hl), q⟩
    · rw [List.getElem?_set_ne (Ne.symm hj)]; exact I.sl j s e
  · rcases set_get e with ⟨rfl, e, hl⟩ | ⟨hj, e⟩
    · cases e; cases o
    · rw [List.getElem?_set_ne (Ne.symm hj)] at es; exact I.new j s p e o es
  · rcases set_get ej with ⟨rfl, ej, hl⟩ | ⟨hj, ej⟩
    · cases ej; cases oj
    · rcases set_get ek with ⟨rfl, ek, hl⟩ | ⟨hk, ek⟩
      · cases ek; cases ok
      · rw [List.getElem?_set_ne (Ne.symm hj)] at e1
        rw [List.getElem?_set_ne (Ne.symm hk)] at e2
        exact I.sep j k sj sk p ej oj ek ok e1 e2
  · rcases set_get e with ⟨rfl, e, hl⟩ | ⟨hj, e⟩
    · cases e
    · rw [List.getElem?_set_ne (Ne.symm hj)]; exact I.pin j xs e
abbrev exiOf (c : Ct) (n : Nat) (a : Addr) (od : Option Addr) : Ct := ⟨⟨c.K.k, ⟨n, a, od.map fun d => (d, (c.cm n).2)⟩⟩, c.cm, c.E⟩
theorem sem_tryAs {i : Nat} {hit : Nat → Bool} {tb : WX → TS} {tb0 : XK → TS} {ts : Addr → Value → Option Addr → TS} {b h : En → R Fl} {cl : Value} {Wout : WX}
    (hw : ∀ (W : WX) (D : Ends) (σ : L2.St) (H : Hp), tb0 (fun cls d H => W cls d σ H) D σ H → tb W D σ H)
    (hb : ∀ E' : XK, SemS ⟨c.K, c.cm, E'⟩ (tb0 E') b) (ht : ∀ n, hit n = true → PySem.W.exmOne c.K (.ref (c.cm n).1) cl = some true)
    (hh : ∀ n a od, hit n = true → ((c.cm n).2 = [] → od = none) → SemS (exiOf c n a od) (ts a (.ref (c.cm n).1) od) h) :
    SemS c (tTryAs c.K cl i tb ts Wout) (tryAs i hit b h) := by
  intro B H0 Hf H σ ρ Dn I o
  refine hw _ _ _ _ ?_
  refine hb _ ⟨Hf, fun _ => .non⟩ H Hf H σ (bareE ρ) Dn (I.bareE rfl) ?_
  unfold tryAs at o
  cases e : b (bareE ρ) with
  | bad => rw [e] at o; exact o.elim
  | ok fl => rw [e] at o; exact GS.fenced (c := c) rfl I.ext o
  | ex n as =>
    rw [e] at o
    intro Hf2 H2 od x2 r2
    have hn : hit n = true := by
      cases z : hit n with
      | true => rfl
      | false => simp only [z] at o; exact o.elim
    simp only [hn, if_true] at o
    refine ⟨true, ht n hn, fun _ a ha => ?_, fun z => nomatch z⟩
    have hod : (c.cm n).2 = [] → od = none := fun z => by
      cases od with
      | none => rfl
      | some d => exact absurd z r2.1
    have has : ExFs (exiOf c n a od).K Hf2 H2 as := by
      cases od with
      | none => exact r2.1
      | some d => exact r2.2
    have J : EnvOk (exiOf c n a od).K ⟨Hf2, fun _ => .non⟩ H2 Hf2 H2 (σ.set i (some (.ref a))) ((bareE ρ).set i (some (.exn n as))) := by
      have J0 : EnvOk (exiOf c n a od).K ⟨Hf2, fun _ => .non⟩ H2 Hf2 H2 σ (bareE ρ) := by
        exact EnvOk.bareE (K := c.K) (K' := (exiOf c n a od).K) rfl (I.grow x2)
      exact J0.held ⟨rfl, rfl, has⟩
    have xx : Ext B.h H0 Hf2 H2 := I.ext.trans x2
    refine hh n a od hn hod ⟨Hf2, fun _ => .non⟩ H2 Hf2 H2 _ _ _ J ?_
    have o2 := (Out.bind (G1 := fun fl => Out c B.h H0 (outF i fl) (GS c B H0 Dn)) o fun fl _ o1 => o1)
    refine Out.mono (c := exiOf c n a od) (G := fun fl => Out c B.h H0 (outF i fl) (GS c B H0 Dn)) ?_ fun fl _ o1 => ?_
    · cases eh : h ((bareE ρ).set i (some (.exn n as))) with
      | ok fl => rw [eh] at o2; exact o2
      | bad => rw [eh] at o2; exact o2
      | ex m bs =>
        rw [eh] at o2
        exact fun Hf' H' od' y r => (show ExW c B.h H0 m bs from o2) Hf' H' od' (xx.trans y) r
    · cases fl with
      | nx ρ' =>
        intro Hf3 H3 σ3 I3
        exact GS.fenced (c := c) (c' := exiOf c n a od) rfl xx (fl := .nx (ρ'.set i none)) o1 Hf3 H3 (σ3.set i none) (I3.goes i)
      | rt r =>
        have z : GS (exiOf c n a od) ⟨Hf2, fun _ => .non⟩ H2 Dn (.rt r) := GS.fenced (c := c) (c' := exiOf c n a od) rfl xx (fl := .rt r) o1
        exact z
      | bk ρ' => exact o1.elim
      | ct ρ' => exact o1.elim
theorem sem_tryOn {hit : Nat → Bool} {tb : WX → TS} {tb0 : XK → TS} {ts : Addr → Value → Option Addr → TS} {b h : En → R Fl} {cl : Value} {Wout : WX}
    (hw : ∀ (W : WX) (D : Ends) (σ : L2.St) (H : Hp), tb0 (fun cls d H => W cls d σ H) D σ H → tb W D σ H)
    (hb : ∀ E' : XK, SemS ⟨c.K, c.cm, E'⟩ (tb0 E') b) (ht : ∀ n, hit n = true → PySem.W.exmOne c.K (.ref (c.cm n).1) cl = some true)
    (hh : ∀ a cls od, SemS c (ts a cls od) h) :
    SemS c (tTryOn c.K cl tb ts Wout) (tryOn hit b h) := by
  intro B H0 Hf H σ ρ Dn I o
  refine hw _ _ _ _ ?_
  refine hb _ ⟨Hf, fun _ => .non⟩ H Hf H σ (bareE ρ) Dn (I.bareE rfl) ?_
  unfold tryOn at o
  cases e : b (bareE ρ) with
  | bad => rw [e] at o; exact o.elim
  | ok fl => rw [e] at o; exact GS.fenced (c := c) rfl I.ext o
  | ex n as =>
    rw [e] at o
    intro Hf2 H2 od x2 r2
    have hn : hit n = true := by
      cases z : hit n with
      | true => rfl
      | false => simp only [z] at o; exact o.elim
    simp only [hn, if_true] at o
    refine ⟨true, ht n hn, fun _ a ha => ?_, fun z => nomatch z⟩
    have xx : Ext B.h H0 Hf2 H2 := I.ext.trans x2
    refine hh a _ od ⟨Hf2, fun _ => .non⟩ H2 Hf2 H2 _ _ _ ((I.grow x2).bareE rfl) ?_
    have o2 := (Out.bind (G1 := fun fl => Out c B.h H0 (fenceF fl) (GS c B H0 Dn)) o fun fl _ o1 => o1)
    cases eh : h (bareE ρ) with
    | ok fl => rw [eh] at o2; exact GS.fenced (c := c) (c' := c) rfl xx o2
    | bad => rw [eh] at o2; exact o2
    | ex m bs =>
      rw [eh] at o2
      exact fun Hf' H' od' y r => (show ExW c B.h H0 m bs from o2) Hf' H' od' (xx.trans y) r
/-! ### isinstance of the held error -/
def isE (i : Nat) (f : Nat → Bool) : En → R SV := fun ρ => match ρ[i]? with
  | some (some (.exn n _)) => .ok (.d (.bool (f n)))
  | _ => .bad
theorem sem_isE {i n : Nat} {a : Addr} {od : Option Addr} {C : Addr} {f : Nat → Bool} {bl : Bool} (hod : od = none) (hx : ExcC c.K.k (c.cm n).1) (hk : PySem.W.kitOne c.K.k (.ref (c.cm n).1) (.ref C) = some (f n)) :
    SemE (exiOf c n a od) bl (tIsE c.K.k i C a (.ref (c.cm n).1) od) (isE i f) := by
  intro B H0 Hf H σ ρ Q I o
  unfold isE at o
  split at o
  rotate_left
  · exact o.elim
  rename_i m as e
  obtain ⟨v, h1, h2, h3, _⟩ := I.sl i _ e
  have h2' : m = n := h2
  subst h2'
  refine ⟨v, h1, (c.cm m).1, .ref C, .ref C, f m, rfl, hod, hx, by rw [h3], fun u r => ?_, hk, ?_⟩
  · cases r; rfl
  · exact GE.now o I.i (.bl _)
end
end Pl
namespace Pl
open PySem PySem.Spec PyProof.Rows L2
section
variable {X : Cx} {x n : Str} {c : Value} {i : Nat} {body suite : List Stmt} {b₀ : Stmt} {np pos pos' : Pos} {tb : WX → TS} {ts : Addr → Value → Option Addr → TS} {Wout : WX}
theorem ps_tryAs (hs : X.stack = X.env :: X.outer) (hf : X.env.frame = some X.env.locals) (hN : X.N.Nodup) (hi : X.N[i]? = some n) (hln : X.env.kindOf n = some .local) (hc : Names X x c) (tk : Takes X Wout)
    (hb : ∀ (W : WX) (pn : List (Addr × Obj)) (xe : Value → Shared → Prop), Takes (X.tr pn xe) W → PassesOwn (model X.prog X.w) X.A X.env xe → PSs (X.tr pn xe) body (tb W))
    (hsu : ∀ (a : Addr) (oe : Obj) (cls : Value) (d : Option Addr) (pn : List (Addr × Obj)), Zc cls d oe → (∃ vs, oe.data = .fields vs) → PSs (X.suite a ((a, oe) :: pn)) (b₀ :: suite) (ts a cls d)) :
    PS X (.Try body [.ExceptHandler (some (.Name x np)) (some n) (b₀ :: suite) pos'] [] [] pos) (tTryAs X.K c i tb ts Wout) := ps_try_as hs hf hN hi hln hc tk hb hsu
theorem ps_tryOn (hs : X.stack = X.env :: X.outer) (hf : X.env.frame = some X.env.locals) (hc : Names X x c) (tk : Takes X Wout)
    (hb : ∀ (W : WX) (pn : List (Addr × Obj)) (xe : Value → Shared → Prop), Takes (X.tr pn xe) W → PassesOwn (model X.prog X.w) X.A X.env xe → PSs (X.tr pn xe) body (tb W))
    (hsu : ∀ (a : Addr) (oe : Obj) (cls : Value) (d : Option Addr) (pn : List (Addr × Obj)), Zc cls d oe → (∃ vs, oe.data = .fields vs) → PSs (X.suite a ((a, oe) :: pn)) (b₀ :: suite) (ts a cls d)) :
    PS X (.Try body [.ExceptHandler (some (.Name x np)) none (b₀ :: suite) pos'] [] [] pos) (tTryOn X.K c tb ts Wout) := ps_try_only hs hf hc tk hb hsu
end
section
variable {P : Program} {w : World} {K : PySem.W.Frag} {mg : Str → Option Value} {base : Heap} {N : List Str} {qual : Str} {sc : Scope} {f : Addr} {cdv : Value} {A : Around} {outer : List Env} {s : Shared} {H : Hp} {E : XK} {C : Addr} {x : Str} {p pos pos2 : Pos}
/-- raise C() in a def that lets it out -/
theorem ps_raise0 (z : Xc K mg x C) (hg : Gl (cxOf (L2.CX P w) P w K mg base N qual sc f cdv A outer s H E) x) (hdb : (x == ("__debug__" : Str)) = false := by decide) :
    PS (cxOf (L2.CX P w) P w K mg base N qual sc f cdv A outer s H E) (.Raise (some (.Call (.Name x p) [] [] pos)) none pos2) (tRaise C E) :=
  ps_raise rfl (takes_of rfl rfl rfl rfl) (pmk_own0 PySem.F.excBase_ValueError z.e z.g z.k (raises_own z.b z.t) hg hdb)
theorem ps_raise1 {m : Str} {j : Nat} {p2 : Pos} (z : Xc K mg x C) (hg : Gl (cxOf (L2.CX P w) P w K mg base N qual sc f cdv A outer s H E) x) (hdb : (x == ("__debug__" : Str)) = false := by decide) :
    PS (cxOf (L2.CX P w) P w K mg base N qual sc f cdv A outer s H E) (.Raise (some (.Call (.Name x p) [.Constant (.str m) j p2] [] pos)) none pos2) (tRaise C E) :=
  ps_raise rfl (takes_of rfl rfl rfl rfl) (pmk_own PySem.F.excBase_ValueError z.e z.g z.k (raises_own z.b z.t) hg hdb)
end
section
variable {c : Ct}
theorem sem_raise' {n : Nat} {C : Addr} (hC : c.cm n = (C, [])) : SemS c (tRaise C c.E) (raiseS n) := sem_raise hC
theorem sem_callE {n : Nat} {g : List D → R SV} {t : TA} {f : En → R (List D)} (h : SemA c t f) : SemE c true (tCallE (spF c.K c.cm n g) c.E t) (callF n g f) := by
  intro B H0 Hf H σ ρ Q I o
  refine h B H0 Hf H σ ρ _ I (Out.bind o fun ds eds o1 => fun vs Hf1 H1 x1 q1 => ?_)
  split at o1
  · rename_i hl
    exact ⟨by rw [dpAll_len q1]; exact hl, c.K.x, Hf1, ds, x1.i, q1, o1.grow x1 fun _ g => g.grow x1⟩
  · exact o1.elim
theorem pe_isE {X : Cx} {a : Addr} {cls : Value} {d : Option Addr} {oe : Obj} {pn : List (Addr × Obj)} {i : Nat} {x : Str} {C : Addr} {p p1 p2 p3 : Pos} {y : Str} (hz : Zc cls d oe) (hf : ∃ vs, oe.data = .fields vs) (hg : Gl X "isinstance") (hm : X.mg "isinstance" = none)
    (hv : bootBuiltins "isinstance" = some (.builtin "isinstance")) (ha : PA (X.suite a ((a, oe) :: pn)) [.Name y p3, .Name x p1] (tCons (tVar i) (tCons (tC (.ref C)) tNil))) : PE (X.suite a ((a, oe) :: pn)) (.Call (.Name "isinstance" p) [.Name y p3, .Name x p1] [] p2) (tIsE X.K i C a cls d) :=
  pe_callB (X := X.suite a ((a, oe) :: pn)) (call_isX hz hf) hg hm hv ha
/-- what the law's def promises -/
def spL (K : PySem.W.Frag) (n : Nat) (g : List D → R SV) : Sp := fun vs H Q E => vs.length = n ∧ ∃ (Hf : Hp) (ds : List D), Same Hf H ∧ DpAll K Hf vs ds ∧ g ds = .ok (.d (.bool true)) ∧ ∀ H', Q (.bl true) H'
theorem spL_ok {P : Program} {w : World} {K : PySem.W.Frag} {mg : Str → Option Value} {base : Heap} {CX : CXT} {cm : Nat → Addr × List Str} {k n : Nat} {f : Addr} {fd : FuncData} {ps : List Str} {g : List D → R SV} (F : FnOk P w K mg base CX k f fd ps (spF K cm n g)) : FnOk P w K mg base CX k f fd ps (spL K n g) :=
  F.imp fun vs H Q E ⟨hl, Hf, ds, i, q, e, hq⟩ => ⟨hl, ⟨0, 0, none⟩, Hf, ds, i, q, by
    rw [e]
    intro v Hf' H' x r _
    cases r
    exact hq H'⟩
theorem law_spL {K : PySem.W.Frag} {g : List D → R SV} {H : Hp} {a : Addr} {ns : List Int} {E : XK} (hS : SqL K H a (ns.map V.int)) (h : g [.list (ns.map PyData.int)] = .ok (.d (.bool true))) :
    spL K 1 g [.ref a] H (fun v _ => v = .bl true) E := ⟨rfl, H, [.list (ns.map PyData.int)], .refl _, .cons (.lst hS (dpAll_ints ns)) .nil, h, fun _ => rfl⟩
end
end Pl
namespace Pl
open PySem PySem.Spec PyProof.Rows L2
/-! ### max of three -/
abbrev rMax3 : List V → Hp → VK → Prop := rNuC3 nuMax3
theorem cb_max3 {X : Cx} (hc : X.calm = true) : CallR X (.builtin "max") rMax3 := call_max3Nu hc
def max3S : List SV → R SV
  | [.d (.int a), .d (.int b), .d (.int e)] => .ok (.d (.int (if (if a < b then b else a) < e then e else (if a < b then b else a))))
  | _ => .bad
theorem c1_max3 {c : Ct} : C1ok c rMax3 max3S := by
  intro Hf H vs rs Q i h o
  unfold max3S at o
  split at o
  · rename_i a b e
    cases h with
    | cons h1 h =>
      cases h with
      | cons h2 h =>
        cases h with
        | cons h3 h =>
          cases h; cases h1; cases h2; cases h3
          refine ⟨.int a, .int b, .int e, .int (if (if a < b then b else a) < e then e else (if a < b then b else a)), rfl, ?_, GE.now o i (.int _)⟩
          have m : ∀ x y : Int, nuMax2 (.int x) (.int y) = some (.int (if x < y then y else x)) := fun x y => by
            show some (if decide (x < y) = true then V.int y else V.int x) = _
            by_cases z : x < y <;> simp [z]
          unfold nuMax3
          rw [m, Option.bind_some, m]
  · exact o.elim
end Pl
/-! PlC: dicts of this frame, with str or int keys. -/
namespace Pl
open PySem PySem.Spec PyProof.Rows L2
def valD (kvs : List (Key × D)) (k : Key) : Option D := (kvs.find? fun kv => decide (kv.1 = k)).map (·.2)
def putD (kvs : List (Key × D)) (k : Key) (v : D) : List (Key × D) :=
  if (kvs.any fun kv => decide (kv.1 = k)) = true then kvs.map (fun kv => if kv.1 = k then (kv.1, v) else kv) else kvs ++ [(k, v)]
section
variable {K : PySem.W.Frag} {Hf : Hp}
theorem dkv_mono {Hf' : Hp} (e : Same Hf Hf') {ws : List (Key × V)} {ks : List (Key × D)} (h : DpKV K Hf ws ks) : DpKV K Hf' ws ks := Paired.mapP h fun _ _ q => ⟨q.1, dp_mono e q.2⟩
theorem dkv_len {ws : List (Key × V)} {ks : List (Key × D)} (h : DpKV K Hf ws ks) : ws.length = ks.length := Paired.length h
theorem dkv_any (k : Key) : ∀ {ws : List (Key × V)} {ks : List (Key × D)}, DpKV K Hf ws ks → (ws.any fun kv => decide (kv.1 = k)) = (ks.any fun kv => decide (kv.1 = k))
  | _, _, .nil => rfl
  | _, _, .cons q r => by rw [List.any_cons, List.any_cons, q.1, dkv_any k r]
theorem dkv_get (k : Key) : ∀ {ws : List (Key × V)} {ks : List (Key × D)}, DpKV K Hf ws ks → (valD ks k = none ∧ valV ws k = none) ∨ ∃ d v, valD ks k = some d ∧ valV ws k = some v ∧ Dp K Hf v d
  | _, _, .nil => .inl ⟨rfl, rfl⟩
  | _, _, .cons (a := a) (b := b) (l₁ := l₁) (l₂ := l₂) q r => by
    have ih := dkv_get k r
    unfold valD valV at ih ⊢
    rw [List.find?_cons, List.find?_cons, q.1]
    by_cases c : b.1 = k
    · exact .inr ⟨b.2, a.2, by simp [c], by simp [c], q.2⟩
    · simp only [c, decide_false]
      exact ih
theorem dkv_map {k : Key} {v : V} {d : D} (hv : Dp K Hf v d) : ∀ {ws : List (Key × V)} {ks : List (Key × D)}, DpKV K Hf ws ks → DpKV K Hf (ws.map fun kv => if kv.1 = k then (kv.1, v) else kv) (ks.map fun kv => if kv.1 = k then (kv.1, d) else kv)
  | _, _, .nil => .nil
  | _, _, .cons (a := a) (b := b) q r => by
    refine .cons ?_ (dkv_map hv r)
    show (if a.1 = k then (a.1, v) else a).1 = (if b.1 = k then (b.1, d) else b).1 ∧ Dp K Hf (if a.1 = k then (a.1, v) else a).2 (if b.1 = k then (b.1, d) else b).2
    rw [q.1]
    split
    · exact ⟨rfl, hv⟩
    · exact q
theorem dkv_put {k : Key} {v : V} {d : D} {ws : List (Key × V)} {ks : List (Key × D)} (hv : Dp K Hf v d) (h : DpKV K Hf ws ks) : DpKV K Hf (putK ws k v) (putD ks k d) := by
  unfold putK putD
  rw [dkv_any k h]
  split
  · exact dkv_map hv h
  · exact Paired.snoc h ⟨rfl, hv⟩
end
/-! ### a dict of this frame is changed -/
theorem ExFs.updD {K : Kx} {Hf H : Hp} {as : List D} {p : Addr} {xs ys : List (Key × V)} (hp : H p = some (.dK xs)) (h : ExFs K Hf H as) : ExFs K Hf (L2.upd H p (.dK ys)) as := by
  unfold ExFs at h ⊢
  split at h
  · exact h
  · obtain ⟨vs, h1, h2, h3⟩ := h
    exact ⟨vs, by rw [upd_ne (fun z => by subst z; rw [hp] at h1; cases h1)]; exact h1, h2, h3⟩
/-- the slot's object is written anew -/
theorem EnvOk.rewriteO {K : Kx} {B : Bs} {H0 Hf H : Hp} {σ : L2.St} {ρ : En} {i : Nat} {xs xs' : List (Key × D)} {vs vs' : List (Key × V)} {p : Addr} (I : EnvOk K B H0 Hf H σ ρ) (e : ρ[i]? = some (some (.od xs))) (h1 : σ[i]? = some (some (.ref p))) (h2 : H p = some (.dK vs)) (h3 : Hf p = none) (h4 : DpKV K Hf vs' xs') :
    EnvOk K B H0 Hf (upd H p (.dK vs')) σ (ρ.set i (some (.od xs'))) := by
  have hn := I.new i _ p e rfl h1
  refine ⟨⟨I.ext.f, fun b o eb => ?_, fun b o eb => ?_, I.ext.n⟩, by rw [List.length_set]; exact I.len, fun j s ej => ?_, fun j s q ej oj es => ?_, fun j k sj sk q ej oj ek ok e1 e2 => ?_, fun j ys ej => ?_⟩
  · rw [upd_ne (ne_of_none eb hn)]; exact I.ext.h _ _ eb
  · rw [upd_ne (ne_of_none eb h3)]; exact I.i _ _ eb
  · rcases set_get ej with ⟨rfl, ej, _⟩ | ⟨hj, ej⟩
    · cases ej
      exact ⟨_, h1, p, _, rfl, upd_same, h3, h4⟩
    · obtain ⟨w, w1, w2⟩ := I.sl j s ej
      refine ⟨w, w1, ?_⟩
      cases s with
      | d x => exact w2
      | ol ys =>
        obtain ⟨q, us, rfl, u1, u2⟩ := w2
        have hq : q ≠ p := fun z => hj (I.sep j i _ _ p ej rfl e rfl (z ▸ w1) h1)
        exact ⟨q, us, rfl, by rw [upd_ne hq]; exact u1, u2⟩
      | od ys =>
        obtain ⟨q, us, rfl, u1, u2⟩ := w2
        have hq : q ≠ p := fun z => hj (I.sep j i _ _ p ej rfl e rfl (z ▸ w1) h1)
        exact ⟨q, us, rfl, by rw [upd_ne hq]; exact u1, u2⟩
      | pin ys =>
        obtain ⟨q, us, rfl, u1, u2⟩ := w2
        have hq : q ≠ p := I.pin_ne ej w1 hn
        exact ⟨q, us, rfl, by rw [upd_ne hq]; exact u1, u2⟩
      | exn n as => exact ⟨w2.1, w2.2.1, w2.2.2.updD h2⟩
      | pd ys => exact w2
  · rcases set_get ej with ⟨rfl, ej, _⟩ | ⟨_, ej⟩
    · rw [h1] at es; cases es; exact hn
    · exact I.new j s q ej oj es
  · have old : ∀ {j : Nat} {s : SV}, (ρ.set i (some (.od xs')))[j]? = some (some s) → s.own = true → ∃ s', ρ[j]? = some (some s') ∧ s'.own = true := by
      intro j s ej oj
      rcases set_get ej with ⟨rfl, _, _⟩ | ⟨_, ej⟩
      · exact ⟨_, e, rfl⟩
      · exact ⟨s, ej, oj⟩
    obtain ⟨sj', a1, a2⟩ := old ej oj
    obtain ⟨sk', b1, b2⟩ := old ek ok
    exact I.sep j k sj' sk' q a1 a2 b1 b2 e1 e2
  · rcases set_get ej with ⟨_, ej, _⟩ | ⟨_, ej⟩
    · cases ej
    · exact I.pin j ys ej
def key1 : SV → R Key
  | .d (.str s) => .ok (.inr s)
  | .d (.int i) => .ok (.inl i)
  | _ => .bad
theorem key1_ok {K : Kx} {Hf H : Hp} {v : V} {r : SV} {k : Key} (q : RepR K Hf H v r) (e : key1 r = .ok k) : v = kV k := by
  unfold key1 at e
  split at e
  · cases e; cases q; rfl
  · cases e; cases q; rfl
  · cases e
theorem u1 {k : Nat} {A : Around} (r : Room k A) : A.units + 1 < cLine := by have := r.un; omega
section
variable {c : Ct}
def dnewS : En → R SV := fun _ => .ok (.od [])
theorem sem_dnew : SemE c true tDNewK dnewS := by
  intro B H0 Hf H σ ρ Q I o
  exact fun p hp => (show GE c true Hf H Q (.od []) from o) _ Hf _ (.fresh I.i hp) ⟨p, [], rfl, upd_same, I.i.free hp, .nil⟩ fun _ _ p' e => by cases e; exact hp
def putS (i : Nat) (fk f : En → R SV) : En → R Fl := fun ρ => f ρ >>= fun r => datS r >>= fun d => match ρ[i]? with
  | some (some (.od kvs)) => fk ρ >>= fun kk => match key1 kk with
    | .ok k => if kvs.length < sizeLine then .ok (.nx (ρ.set i (some (.od (putD kvs k d))))) else .bad
    | _ => .bad
  | _ => .bad
theorem sem_put {i : Nat} {t tk : TE} {f fk : En → R SV} (h : SemE c true t f) (hk : SemE c false tk fk) : SemS c (sDPut (tVar i) tk t) (putS i fk f) := by
  intro B H0 Hf H σ ρ Dn I o
  refine h B H0 Hf H σ ρ _ I ((Out.bind o fun a ea o1 => ?_ : Out c B H0 (f ρ) (GE c true Hf H _)).here I.ext)
  intro u Hf1 H1 x1 q1 fr
  obtain ⟨d, ed, o2⟩ := out_dat o1
  obtain ⟨Hf2, x2, q2⟩ := froze x1 q1 (fr rfl) ed
  split at o2
  rotate_left
  · exact o2.elim
  rename_i kvs e
  have I2 := I.grow x2
  obtain ⟨v, h1, p, vs, rfl, h2, h3, h4⟩ := I2.sl i _ e
  refine ⟨.ref p, h1, ?_⟩
  refine hk B H0 Hf2 H1 σ ρ _ I2 ((Out.bind o2 fun kk ek o3 => ?_ : Out c B H0 (fk ρ) (GE c false Hf2 H1 _)).here I2.ext)
  intro w Hf3 H3 x3 q3 _
  split at o3
  rotate_left
  · exact o3.elim
  rename_i k ek
  have hw := key1_ok q3 ek
  subst hw
  split at o3
  rotate_left
  · exact o3.elim
  rename_i hl
  have I3 := I2.grow x3
  have h2' := x3.h _ _ h2
  have h3' := x3.still h2 h3
  have h4' := dkv_mono x3.f h4
  exact ⟨p, _, rfl, .inl ⟨vs, k, h2', rfl, by rw [dkv_len h4]; exact hl, rfl⟩, (show GS c B H0 Dn (.nx _) from o3) _ _ _ (I3.rewriteO e h1 h2' h3' (dkv_put (dp_mono x3.f q2) h4'))⟩
def dictOf : SV → Option (List (Key × D))
  | .od kvs => some kvs
  | .pd kvs => some kvs
  | _ => none
theorem dictOf_ok {Hf H : Hp} {v : V} {r : SV} {kvs : List (Key × D)} (i : Same Hf H) (q : RepR c.K Hf H v r) (e : dictOf r = some kvs) : ∃ p ws, v = .ref p ∧ Rd H p (.dK ws) ∧ DpKV c.K Hf ws kvs := by
  cases r with
  | od ks => cases e; obtain ⟨p, ws, h, h1, h2, h3⟩ := q; exact ⟨p, ws, h, .inl h1, h3⟩
  | pd ks => cases e; obtain ⟨p, ws, o, h, h1, h3⟩ := q; exact ⟨p, ws, h, .inr ⟨o, i _ _ h1⟩, h3⟩
  | d x => cases e
  | ol x => cases e
  | pin x => cases e
  | exn n as => cases e
theorem rd_mono {H H' : Hp} {p : Addr} {u : HO} (e : Same H H') (h : Rd H p u) : Rd H' p u := by
  rcases h with h | ⟨o, h⟩
  · exact .inl (e _ _ h)
  · exact .inr ⟨o, e _ _ h⟩
def dgetS (i : Nat) (fk : En → R SV) : En → R SV := fun ρ => match ρ[i]? with
  | some (some r) => (match dictOf r with
    | some kvs => fk ρ >>= fun kk => match key1 kk with
      | .ok k => (match valD kvs k with
        | some d => .ok (.d d)
        | none => .bad)
      | _ => .bad
    | none => .bad)
  | _ => .bad
theorem sem_dget {i : Nat} {tk : TE} {fk : En → R SV} (hk : SemE c false tk fk) : SemE c true (tDGet (tVar i) tk) (dgetS i fk) := by
  intro B H0 Hf H σ ρ Q I o
  unfold dgetS at o
  split at o
  rotate_left
  · exact o.elim
  rename_i r e
  split at o
  rotate_left
  · exact o.elim
  rename_i kvs er
  obtain ⟨v, h1, q⟩ := I.sl i _ e
  obtain ⟨p, ws, rfl, h2, h3⟩ := dictOf_ok (c := c) I.i q er
  refine ⟨.ref p, h1, ?_⟩
  refine hk B H0 Hf H σ ρ _ I (Out.bind o fun kk ek o1 => ?_)
  intro w Hf1 H1 x1 q1 _
  split at o1
  rotate_left
  · exact o1.elim
  rename_i k ek'
  have hw := key1_ok q1 ek'
  subst hw
  split at o1
  rotate_left
  · exact o1.elim
  rename_i d ed
  rcases dkv_get k h3 with ⟨a1, a2⟩ | ⟨d', v', a1, a2, a3⟩
  · rw [a1] at ed; cases ed
  · rw [a1] at ed; cases ed
    exact ⟨p, v', rfl, .inl ⟨ws, k, rd_mono x1.h h2, rfl, a2.symm⟩, GE.now (GE.grow (show GE c true Hf H Q _ from o1) x1) x1.i (dp_mono x1.f a3)⟩
def dget2S (i : Nat) (fk fx : En → R SV) : En → R SV := fun ρ => match ρ[i]? with
  | some (some r) => (match dictOf r with
    | some kvs => fk ρ >>= fun kk => match key1 kk with
      | .ok k => fx ρ >>= fun x => (match x with
        | .d x => .ok (.d ((valD kvs k).getD x))
        | _ => .bad)
      | _ => .bad
    | none => .bad)
  | _ => .bad
theorem sem_dget2 {i : Nat} {tk tx : TE} {fk fx : En → R SV} (hk : SemE c false tk fk) (hx : SemE c false tx fx) : SemE c true (tDGet2 (tVar i) tk tx) (dget2S i fk fx) := by
  intro B H0 Hf H σ ρ Q I o
  unfold dget2S at o
  split at o
  rotate_left
  · exact o.elim
  rename_i r e
  split at o
  rotate_left
  · exact o.elim
  rename_i kvs er
  obtain ⟨v, h1, q⟩ := I.sl i _ e
  obtain ⟨p, ws, rfl, h2, h3⟩ := dictOf_ok (c := c) I.i q er
  refine ⟨.ref p, h1, p, rfl, .inl ⟨ws, h2⟩, ?_⟩
  refine hk B H0 Hf H σ ρ _ I (Out.bind o fun kk ek o1 => ?_)
  intro w Hf1 H1 x1 q1 _
  split at o1
  rotate_left
  · exact o1.elim
  rename_i k ek'
  have hw := key1_ok q1 ek'
  subst hw
  refine hx B H0 Hf1 H1 σ ρ _ (I.grow x1) (Out.bind (o1.grow x1 fun _ g => g) fun xx ex o2 => ?_)
  intro z Hf2 H2 x2 q2 _
  split at o2
  rotate_left
  · exact o2.elim
  rename_i xd _
  have h3' := dkv_mono (x1.f.trans x2.f) h3
  have h2' := rd_mono (x1.h.trans x2.h) h2
  have g : GE c true Hf2 H2 Q (.d ((valD kvs k).getD xd)) := GE.grow (GE.grow (show GE c true Hf H Q _ from o2) x1) x2
  rcases dkv_get k h3' with ⟨a1, a2⟩ | ⟨d', v', a1, a2, a3⟩
  · refine ⟨none, .inl ⟨ws, k, h2', rfl, a2.symm⟩, ?_⟩
    rw [a1] at g
    exact GE.now g x2.i q2
  · refine ⟨some v', .inl ⟨ws, k, h2', rfl, a2.symm⟩, ?_⟩
    rw [a1] at g
    exact GE.now g x2.i a3
def inDS (neg : Bool) (i : Nat) (fk : En → R SV) : En → R SV := fun ρ => fk ρ >>= fun kk => match key1 kk with
  | .ok k => (match ρ[i]? with
    | some (some r) => (match dictOf r with
      | some kvs => .ok (.d (.bool (if neg then !(valD kvs k).isSome else (valD kvs k).isSome)))
      | none => .bad)
    | _ => .bad)
  | _ => .bad
theorem sem_inD_core {i : Nat} {neg : Bool} {tk : TE} {fk : En → R SV} (hk : SemE c false tk fk) {B : Bs} {H0 Hf H : Hp} {σ : L2.St} {ρ : En} {Q : VK} (I : EnvOk c.K B H0 Hf H σ ρ) (o : Out c Hf H (inDS neg i fk ρ) (GE c true Hf H Q)) :
    tk σ H fun y H1 => tVar i σ H1 fun x H2 => ∃ a ov, x = .ref a ∧ DGet H2 a y ov ∧ Q (.bl (if neg then !ov.isSome else ov.isSome)) H2 := by
  unfold inDS at o
  refine hk B H0 Hf H σ ρ _ I (Out.bind o fun kk ek o1 => ?_)
  intro w Hf1 H1 x1 q1 _
  split at o1
  rotate_left
  · exact o1.elim
  rename_i k ek'
  have hw := key1_ok q1 ek'
  subst hw
  split at o1
  rotate_left
  · exact o1.elim
  rename_i r e
  split at o1
  rotate_left
  · exact o1.elim
  rename_i kvs er
  obtain ⟨v, h1, q⟩ := (I.grow x1).sl i _ e
  obtain ⟨p, ws, rfl, h2, h3⟩ := dictOf_ok (c := c) x1.i q er
  refine ⟨.ref p, h1, p, valV ws k, rfl, .inl ⟨ws, k, h2, rfl, rfl⟩, ?_⟩
  have es : (valV ws k).isSome = (valD kvs k).isSome := by
    rcases dkv_get k h3 with ⟨a1, a2⟩ | ⟨d', v', a1, a2, _⟩
    · rw [a1, a2]; rfl
    · rw [a1, a2]; rfl
  rw [es]
  exact GE.now (GE.grow (show GE c true Hf H Q _ from o1) x1) x1.i (.bl _)
theorem sem_inD {i : Nat} {tk : TE} {fk : En → R SV} (hk : SemE c false tk fk) : SemE c true (tDIn tk (tVar i)) (inDS false i fk) := fun _ _ _ _ _ _ _ I o => sem_inD_core (neg := false) hk I o
theorem sem_notInD {i : Nat} {tk : TE} {fk : En → R SV} (hk : SemE c false tk fk) : SemE c true (tDNotIn tk (tVar i)) (inDS true i fk) := fun _ _ _ _ _ _ _ I o => sem_inD_core (neg := true) hk I o
/-! ### a comprehension over a dict of this frame -/
def less (d : Addr) (H : Hp) : Hp := fun b => if b = d then none else H b
theorem less_ne {d b : Addr} {H : Hp} (h : b ≠ d) : less d H b = H b := if_neg h
theorem rd_less {H : Hp} {d a : Addr} {o : Obj} {ks : List (Key × V)} {u : HO} (hd : H d = some (.frz o (.dK ks))) (hu : ∀ ks, u ≠ .dK ks) (hf : ∀ o' w, u ≠ .frz o' w) (h : Rd H a u) : Rd (less d H) a u := by
  rcases h with h | ⟨o', h⟩
  · have hne : a ≠ d := fun z => by rw [z, hd] at h; injection h with h; exact hf _ _ h.symm
    exact .inl (by rw [less_ne hne]; exact h)
  · have hne : a ≠ d := fun z => by rw [z, hd] at h; injection h with h; injection h with _ h; exact hu _ h.symm
    exact .inr ⟨o', by rw [less_ne hne]; exact h⟩
theorem sqL_less {K : PySem.W.Frag} {H : Hp} {d a : Addr} {o : Obj} {ks : List (Key × V)} {xs : List V} (hd : H d = some (.frz o (.dK ks))) (h : SqL K H a xs) : SqL K (less d H) a xs := by
  rcases h with h | h
  · exact .inl (rd_less hd (fun _ z => nomatch z) (fun _ _ z => nomatch z) h)
  · exact .inr h
theorem sqT_less {K : PySem.W.Frag} {H : Hp} {d a : Addr} {o : Obj} {ks : List (Key × V)} {xs : List V} (hd : H d = some (.frz o (.dK ks))) (h : SqT K H a xs) : SqT K (less d H) a xs := by
  rcases h with h | h
  · exact .inl (rd_less hd (fun _ z => nomatch z) (fun _ _ z => nomatch z) h)
  · exact .inr h
mutual
theorem dp_less {K : PySem.W.Frag} {H : Hp} {a : Addr} {o : Obj} {ks : List (Key × V)} (hd : H a = some (.frz o (.dK ks))) : ∀ {d : D} {v : V}, Dp K H v d → Dp K (less a H) v d
  | .none, _, h => by cases h; exact .non
  | .bool b, _, h => by cases h; exact .bl b
  | .int i, _, h => by cases h; exact .int i
  | .str x, _, h => by cases h; exact .str x
  | .list ds, _, h => by
    cases h with
    | lst h1 h2 => exact .lst (sqL_less hd h1) (dpAll_less hd h2)
  | .tuple ds, _, h => by
    cases h with
    | tup h1 h2 => exact .tup (sqT_less hd h1) (dpAll_less hd h2)
  | .dict _, _, h => by cases h
theorem dpAll_less {K : PySem.W.Frag} {H : Hp} {a : Addr} {o : Obj} {ks : List (Key × V)} (hd : H a = some (.frz o (.dK ks))) : ∀ {ds : List D} {vs : List V}, DpAll K H vs ds → DpAll K (less a H) vs ds
  | [], _, h => by cases h; exact .nil
  | d :: ds, _, h => by
    cases h with
    | cons h1 h2 => exact .cons (dp_less hd h1) (dpAll_less hd h2)
end
def lockD (i : Nat) (f : En → R SV) : En → R SV := fun ρ => match ρ[i]? with
  | some (some (.od kvs)) => (match f (ρ.set i (some (.pd kvs))) with
    | .ok (.ol xs) => .ok (.ol xs)
    | _ => .bad)
  | _ => .bad
theorem sem_lock {i : Nat} {t : TE} {f : En → R SV} (h : SemE c true t f) : SemE c true (tLockE t) (lockD i f) := by
  intro B H0 Hf H σ ρ Q I o
  unfold lockD at o
  split at o
  rotate_left
  · exact o.elim
  rename_i kvs e
  obtain ⟨v, h1, p, ws, rfl, h2, h3, h4⟩ := I.sl i _ e
  have hn := I.new i _ p e rfl h1
  refine ⟨p, .dK ws, h2, trivial, fun od => ?_⟩
  have g : Same Hf (L2.upd Hf p (.frz od (.dK ws))) := upd_grow h3
  have I1 : EnvOk c.K B H0 (L2.upd Hf p (.frz od (.dK ws))) (L2.upd H p (.frz od (.dK ws))) σ (ρ.set i (some (.pd kvs))) := by
    refine ⟨⟨I.ext.f.trans g, fun b o eb => ?_, upd_both I.i, fun b eb => ?_⟩, by rw [List.length_set, I.len], fun j s ej => ?_, fun j s q ej oj es => ?_, fun j k sj sk q ej oj ek ok e1 e2 => ?_, fun j ys ej => ?_⟩
    · rw [upd_ne (ne_of_none eb hn)]; exact I.ext.h _ _ eb
    · by_cases hb : b = p
      · subst hb; exact .inr hn
      · rw [upd_ne hb] at eb; exact I.ext.n b eb
    · rcases set_get ej with ⟨rfl, ej, _⟩ | ⟨hj, ej⟩
      · cases ej
        exact ⟨_, h1, p, ws, od, rfl, upd_same, dkv_mono g h4⟩
      · obtain ⟨w, w1, w2⟩ := I.sl j s ej
        refine ⟨w, w1, ?_⟩
        cases s with
        | d x => exact dp_mono g w2
        | ol ys =>
          obtain ⟨q, us, rfl, u1, u2, u3⟩ := w2
          have hq : q ≠ p := fun z => hj (I.sep j i _ _ p ej rfl e rfl (z ▸ w1) h1)
          exact ⟨q, us, rfl, by rw [upd_ne hq]; exact u1, by rw [upd_ne hq]; exact u2, dpAll_mono g u3⟩
        | od ys =>
          obtain ⟨q, us, rfl, u1, u2, u3⟩ := w2
          have hq : q ≠ p := fun z => hj (I.sep j i _ _ p ej rfl e rfl (z ▸ w1) h1)
          exact ⟨q, us, rfl, by rw [upd_ne hq]; exact u1, by rw [upd_ne hq]; exact u2, dkv_mono g u3⟩
        | pin ys =>
          obtain ⟨q, us, rfl, u1, u2, u3⟩ := w2
          have hq : q ≠ p := I.pin_ne ej w1 hn
          exact ⟨q, us, rfl, by rw [upd_ne hq]; exact u1, by rw [upd_ne hq]; exact u2, dpAll_mono g u3⟩
        | exn n as =>
          refine ⟨w2.1, w2.2.1, ?_⟩
          have w3 := w2.2.2
          unfold ExFs at w3 ⊢
          split at w3
          · exact w3
          · obtain ⟨vs, a1, a2, a3⟩ := w3
            exact ⟨vs, by rw [upd_ne (fun z => by rw [z, h2] at a1; cases a1)]; exact a1, a2, dpAll_mono g a3⟩
        | pd ys =>
          obtain ⟨q, us, o', rfl, u1, u3⟩ := w2
          have hq : q ≠ p := fun z => by rw [z, h3] at u1; cases u1
          exact ⟨q, us, o', rfl, by rw [upd_ne hq]; exact u1, dkv_mono g u3⟩
    · rcases set_get ej with ⟨_, ej, _⟩ | ⟨_, ej⟩
      · cases ej; cases oj
      · exact I.new j s q ej oj es
    · rcases set_get ej with ⟨_, ej, _⟩ | ⟨_, ej⟩
      · cases ej; cases oj
      · rcases set_get ek with ⟨_, ek, _⟩ | ⟨_, ek⟩
        · cases ek; cases ok
        · exact I.sep j k sj sk q ej oj ek ok e1 e2
    · rcases set_get ej with ⟨_, ej, _⟩ | ⟨_, ej⟩
      · cases ej
      · exact I.pin j ys ej
  refine h B H0 _ _ σ _ _ I1 ?_
  cases ef : f (ρ.set i (some (.pd kvs))) with
  | bad => rw [ef] at o; exact o.elim
  | ex n as => rw [ef] at o; exact o.elim
  | ok r =>
    rw [ef] at o
    cases r with
    | d x => exact o.elim
    | od x => exact o.elim
    | pin x => exact o.elim
    | exn n as => exact o.elim
    | pd x => exact o.elim
    | ol xs =>
      intro v Hf' H' x q fr
      obtain ⟨p2, vs, rfl, q1, q2, q3⟩ := q
      have hp := x.h _ _ (upd_same (H := H) (a := p) (o := .frz od (.dK ws)))
      have hfp := x.f _ _ (upd_same (H := Hf) (a := p) (o := .frz od (.dK ws)))
      have hne : p2 ≠ p := fun z => by rw [z, hp] at q1; cases q1
      refine ⟨hp, (show GE c true Hf H Q (.ol xs) from o) (.ref p2) (less p Hf') (L2.upd H' p (.dK ws)) ⟨fun b o eb => ?_, fun b o eb => ?_, fun b o eb => ?_, fun b eb => ?_⟩ ⟨p2, vs, rfl, by rw [upd_ne hne]; exact q1, by rw [less_ne hne]; exact q2, dpAll_less hfp q3⟩ fun a b p' e' => ?_⟩
      · have hb : b ≠ p := ne_of_none eb h3
        rw [less_ne hb]; exact x.f _ _ (by rw [upd_ne hb]; exact eb)
      · by_cases hb : b = p
        · subst hb; rw [h2] at eb; cases eb; exact upd_same
        · rw [upd_ne hb]; exact x.h _ _ (by rw [upd_ne hb]; exact eb)
      · have hb : b ≠ p := fun z => by rw [z] at eb; unfold less at eb; rw [if_pos rfl] at eb; cases eb
        rw [less_ne hb] at eb
        rw [upd_ne hb]; exact x.i _ _ eb
      · have hb : b ≠ p := fun z => by rw [z] at eb; unfold less at eb; rw [if_pos rfl] at eb; exact eb rfl
        rw [less_ne hb] at eb
        rcases x.n b eb with z | z
        · rw [upd_ne hb] at z; exact .inl z
        · rw [upd_ne hb] at z; exact .inr z
      · have z := fr rfl rfl p' e'
        have hb : p' ≠ p := fun w => by rw [w, upd_same] at z; cases z
        rw [upd_ne hb] at z; exact z
def keyD : Key → D
  | .inl i => .int i
  | .inr s => .str s
theorem keyD_ok {K : PySem.W.Frag} {Hf : Hp} : ∀ k : Key, Dp K Hf (kV k) (keyD k)
  | .inl i => .int i
  | .inr s => .str s
def keysD (i : Nat) : En → R (List D) := fun ρ => match ρ[i]? with
  | some (some (.pd kvs)) => .ok (kvs.map fun kv => keyD kv.1)
  | _ => .bad
theorem dkv_at {K : PySem.W.Frag} {Hf : Hp} : ∀ {ws : List (Key × V)} {ks : List (Key × D)} {i : Nat} {k : Key} {v : V}, DpKV K Hf ws ks → ws[i]? = some (k, v) → ∃ d, ks[i]? = some (k, d)
  | _, _, _, _, _, .nil, e => by simp at e
  | _, _, 0, _, _, .cons (b := b) q _, e => by
    simp at e; subst e
    exact ⟨b.2, by simp; exact Prod.ext q.1.symm rfl⟩
  | _, _, i + 1, _, _, .cons q r, e => by
    obtain ⟨d, h⟩ := dkv_at (i := i) r (by simpa using e)
    exact ⟨d, by simpa using h⟩
theorem sem_keysI {i : Nat} : SemI c (iKeys (tVar i)) (keysD i) := by
  intro B H0 Hf H σ ρ Rr I o
  unfold keysD at o
  split at o
  rotate_left
  · exact o.elim
  rename_i kvs e
  obtain ⟨v, h1, p, ws, od, rfl, h2, h3⟩ := I.sl i _ e
  refine ⟨.ref p, h1, p, od, rfl, .inl ⟨ws, I.i _ _ h2, ?_⟩⟩
  refine o _ Hf H (.refl I.i) ⟨fun i H x H' => H' = H ∧ ∃ k v, ws[i]? = some (k, v) ∧ x = kV k, ?_, fun j H x H' Hfi hi s1 s2 y => ?_⟩
  · rw [List.length_map, ← dkv_len h3]
    exact walk_keys.mono (fun H e => e _ _ h2) fun _ _ _ _ _ _ y => y
  · obtain ⟨rfl, k, v, e1, rfl⟩ := y
    obtain ⟨d, e2⟩ := dkv_at h3 e1
    exact ⟨keyD k, Hfi, by rw [List.getElem?_map, e2]; rfl, .refl s2, keyD_ok k⟩
end
end Pl
/-! Pm: the plain functions, computed. -/
namespace Pl
open PySem PySem.Spec PyProof.Rows L2

/-- an equation by reckoning that is used as an equation -/
theorem nrfl {α : Sort _} {a b : α} (h : a = b) : a = b := h
/-! ### applied combinators -/
section
variable (ρ : En) (g : SV → SV → R SV) (g1 : SV → R SV) (gl : List SV → R SV) (fa fb fc : En → R SV) (ft fu : En → R Bool) (f f' : En → R Fl) (i n : Nat) (d : D) (fA : En → R (List D)) (fB : En → R (List SV)) (gf : List D → R SV)
@[simp] theorem bin_ap : bin g fa fb ρ = (fa ρ >>= fun a => fb ρ >>= fun b => g a b) := nrfl rfl
@[simp] theorem una_ap : una g1 fa ρ = (fa ρ >>= g1) := nrfl rfl
@[simp] theorem kon_ap : kon d ρ = .ok (.d d) := nrfl rfl
@[simp] theorem asT_ap : asT fa ρ = (fa ρ >>= bool1) := nrfl rfl
@[simp] theorem tru_ap : tru fa ρ = (fa ρ >>= truS) := nrfl rfl
@[simp] theorem andT_ap : andT ft fu ρ = (ft ρ >>= fun b => if b = true then fu ρ else .ok false) := nrfl rfl
@[simp] theorem orT_ap : orT ft fu ρ = (ft ρ >>= fun b => if b = true then .ok true else fu ρ) := nrfl rfl
@[simp] theorem notT_ap : notT ft ρ = (ft ρ >>= fun b => .ok (!b)) := nrfl rfl
@[simp] theorem andV_ap : andV fa fb ρ = (fa ρ >>= bool1 >>= fun b => if b = true then fb ρ else .ok (.d (.bool false))) := nrfl rfl
@[simp] theorem orV_ap : orV fa fb ρ = (fa ρ >>= bool1 >>= fun b => if b = true then .ok (.d (.bool true)) else fb ρ) := nrfl rfl
@[simp] theorem notV_ap : notV fa ρ = (fa ρ >>= bool1 >>= fun b => .ok (.d (.bool !b))) := nrfl rfl
@[simp] theorem notN_ap : notN fa ρ = (fa ρ >>= truS >>= fun b => .ok (.d (.bool !b))) := nrfl rfl
@[simp] theorem iff_ap : iff' ft fa fb ρ = (ft ρ >>= fun b => if b = true then fa ρ else fb ρ) := nrfl rfl
@[simp] theorem chain_ap (g' : SV → SV → R SV) : chain g g' fa fb fc ρ = (fa ρ >>= fun a => fb ρ >>= fun b => g a b >>= fun z => bool1 z >>= fun k => if k = true then fc ρ >>= fun w => g' b w else .ok (.d (.bool false))) := nrfl rfl
@[simp] theorem conA_ap : conA fa fA ρ = (fa ρ >>= fun a => datS a >>= fun d => fA ρ >>= fun ds => .ok (d :: ds)) := nrfl rfl
@[simp] theorem nilA_ap : nilA ρ = .ok [] := nrfl rfl
@[simp] theorem conB_ap : conB fa fB ρ = (fa ρ >>= fun a => fB ρ >>= fun ds => .ok (a :: ds)) := nrfl rfl
@[simp] theorem nilB_ap : nilB ρ = .ok [] := nrfl rfl
@[simp] theorem dispT_ap : dispT fA ρ = (fA ρ >>= fun ds => if ds.length ≤ 1000 then .ok (.d (.tuple ds)) else .bad) := nrfl rfl
@[simp] theorem dispL_ap : dispL fA ρ = (fA ρ >>= fun ds => if ds.length ≤ 1000 then .ok (.ol ds) else .bad) := nrfl rfl
@[simp] theorem callF_ap : callF n gf fA ρ = (fA ρ >>= fun ds => if ds.length = n then gf ds else .bad) := nrfl rfl
@[simp] theorem callB_ap : callB gl fB ρ = (fB ρ >>= gl) := nrfl rfl
@[simp] theorem isi_ap (T : String) : isi T fa ρ = (fa ρ >>= fun a => datS a >>= fun d => match kitB (tyN d) T with | some b => .ok (.d (.bool b)) | none => .bad) := nrfl rfl
@[simp] theorem slice_ap (fl fh : En → R (Option Int)) : slice fa fl fh ρ = (fa ρ >>= fun a => fl ρ >>= fun l => fh ρ >>= fun h => slS a l h) := nrfl rfl
@[simp] theorem noO_ap : noO ρ = .ok none := nrfl rfl
@[simp] theorem someO_ap : someO fa ρ = (fa ρ >>= fun a => match a with | .d (.int i) => .ok (some i) | _ => .bad) := nrfl rfl
@[simp] theorem seqS_ap : seqS f f' ρ = (f ρ >>= fun fl => match fl with | .nx ρ' => f' ρ' | z => .ok z) := nrfl rfl
@[simp] theorem skip_ap : skip ρ = .ok (.nx ρ) := nrfl rfl
@[simp] theorem ifS_ap : ifS ft f f' ρ = (ft ρ >>= fun b => if b = true then f ρ else f' ρ) := nrfl rfl
@[simp] theorem retS_ap : retS fa ρ = (fa ρ >>= fun r => .ok (.rt r)) := nrfl rfl
@[simp] theorem retV_ap : retV i ρ = (peek i ρ >>= fun r => .ok (.rt r)) := nrfl rfl
@[simp] theorem retN_ap : retN ρ = .ok (.rt (.d .none)) := nrfl rfl
@[simp] theorem brkS_ap : brkS ρ = .ok (.bk ρ) := nrfl rfl
@[simp] theorem cntS_ap : cntS ρ = .ok (.ct ρ) := nrfl rfl
@[simp] theorem exprS_ap : exprS fa ρ = (fa ρ >>= fun _ => .ok (.nx ρ)) := nrfl rfl
@[simp] theorem asgS_ap : asgS i fa ρ = (fa ρ >>= fun r => if r.npin = true then .ok (.nx (ρ.set i (some r))) else .bad) := nrfl rfl
@[simp] theorem npin_d (x : D) : SV.npin (.d x) = true := nrfl rfl
@[simp] theorem npin_ol (x : List D) : SV.npin (.ol x) = true := nrfl rfl
@[simp] theorem npin_od (x : List (Key × D)) : SV.npin (.od x) = true := nrfl rfl
@[simp] theorem asgG_ap (k : D → En → R En) : asgG k fa ρ = (fa ρ >>= fun r => datS r >>= fun d => match k d ρ with | .ok ρ' => .ok (.nx ρ') | _ => .bad) := nrfl rfl
@[simp] theorem kill_ap (is : List Nat) : kill is f ρ = (f ρ >>= fun fl => match fl with | .nx ρ' => .ok (.nx (killE is ρ')) | .ct ρ' => .ok (.ct (killE is ρ')) | .bk ρ' => .ok (.bk (killE is ρ')) | z => .ok z) := nrfl rfl
@[simp] theorem frzS_ap (is : List Nat) : frzS is f ρ = f (is.foldl (fun ρ i => frzE i ρ) ρ) := nrfl rfl
@[simp] theorem forS_ap (fi : En → R (List D)) (k : D → En → R En) : forS fi k f ρ = (fi ρ >>= fun xs => forF k f xs ρ) := nrfl rfl
@[simp] theorem seqD_ap : seqD fa ρ = (fa ρ >>= fun a => match a with
  | .d (.list xs) => .ok xs
  | .ol xs => .ok xs
  | .d (.tuple xs) => .ok xs
  | .d (.str z) => .ok (z.cps.toList.map fun n => .str ⟨#[n]⟩)
  | _ => .bad) := nrfl rfl
@[simp] theorem rngD1_ap : rngD1 fB ρ = (fB ρ >>= fun a => match a with
  | [.d (.int j)] => if okR j = true then .ok (rng 0 j) else .bad
  | _ => .bad) := nrfl rfl
@[simp] theorem rngD2_ap : rngD2 fB ρ = (fB ρ >>= fun a => match a with
  | [.d (.int i), .d (.int j)] => if okR i = true ∧ okR j = true then .ok (rng i j) else .bad
  | _ => .bad) := nrfl rfl
@[simp] theorem lcE_ap (fi : En → R (List D)) (k : D → En → R En) (vs : List Nat) : lcE fi k ft fa vs ρ = (fi ρ >>= fun xs => if xs.length < sizeLine then lcF k ft fa (wipeE ρ vs) xs >>= fun ys => .ok (.ol ys) else .bad) := nrfl rfl
@[simp] theorem yesT_ap : yesT ρ = .ok true := nrfl rfl
@[simp] theorem setD_ap : setD i d ρ = .ok (ρ.set i (some (.d d))) := nrfl rfl
@[simp] theorem gsN_ap : gsN [] ρ = .ok ρ := nrfl rfl
@[simp] theorem gsC_ap (k : D → En → R En) (ks : List D → En → R En) (ds : List D) : gsC k ks (d :: ds) ρ = (k d ρ >>= ks ds) := nrfl rfl
@[simp] theorem tupG_ap (ks : List D → En → R En) (ds : List D) : tupG n ks (.tuple ds) ρ = if ds.length = n then ks ds ρ else .bad := nrfl rfl
@[simp] theorem tupG_apL (ks : List D → En → R En) (ds : List D) : tupG n ks (.list ds) ρ = if ds.length = n then ks ds ρ else .bad := nrfl rfl
@[simp] theorem getV_ap : getV i ρ = (match ρ[i]? with | some (some (.d x)) => .ok (.d x) | _ => .bad) := nrfl rfl
@[simp] theorem peek_ap : peek i ρ = (match ρ[i]? with | some (some r) => .ok r | _ => .bad) := nrfl rfl
@[simp] theorem appS_ap : appS i fa ρ = (match ρ[i]? with
  | some (some (.ol xs)) => fa ρ >>= fun r => datS r >>= fun d => if xs.length < sizeLine then .ok (.nx (ρ.set i (some (.ol (xs ++ [d]))))) else .bad
  | _ => .bad) := nrfl rfl
@[simp] theorem frzE_ap : frzE i ρ = (match ρ[i]? with | some (some (.ol xs)) => ρ.set i (some (.d (.list xs))) | _ => ρ) := nrfl rfl
@[simp] theorem killE_nil : killE [] ρ = ρ := nrfl rfl
@[simp] theorem killE_cons (is : List Nat) : killE (i :: is) ρ = killE is (ρ.set i none) := nrfl rfl
@[simp] theorem wipeE_nil : wipeE ρ [] = ρ := nrfl rfl
@[simp] theorem wipeE_cons (is : List Nat) : wipeE ρ (i :: is) = (wipeE ρ is).set i none := nrfl rfl
end
/-! ### values -/
def imax (a b : Int) : Int := if b > a then b else a
def imin (a b : Int) : Int := if b < a then b else a
section
variable (a b : Int) (x y : Str) (k : Bool) (xs ys : List D) (neg : Bool) (d e : D)
@[simp] theorem datS_d : datS (.d d) = .ok d := nrfl rfl
@[simp] theorem datS_ol : datS (.ol xs) = .ok (.list xs) := nrfl rfl
@[simp] theorem bool1_b : bool1 (.d (.bool k)) = .ok k := nrfl rfl
@[simp] theorem truS_b : truS (.d (.bool k)) = .ok k := nrfl rfl
@[simp] theorem truS_i : truS (.d (.int a)) = .ok (a != 0) := nrfl rfl
@[simp] theorem truS_n : truS (.d .none) = .ok false := nrfl rfl
@[simp] theorem truS_l : truS (.d (.list xs)) = .ok (!xs.isEmpty) := nrfl rfl
@[simp] theorem truS_t : truS (.d (.tuple xs)) = .ok (!xs.isEmpty) := nrfl rfl
@[simp] theorem truS_ol : truS (.ol xs) = .ok (!xs.isEmpty) := nrfl rfl
@[simp] theorem addS_i : addS (.d (.int a)) (.d (.int b)) = .ok (.d (.int (a + b))) := nrfl rfl
@[simp] theorem subS_i : subS (.d (.int a)) (.d (.int b)) = .ok (.d (.int (a - b))) := nrfl rfl
@[simp] theorem mulS_i : mulS (.d (.int a)) (.d (.int b)) = if (okM a || okM b) = true then .ok (.d (.int (a * b))) else .bad := nrfl rfl
@[simp] theorem mulA_i : mulA (.d (.int a)) (.d (.int b)) = if (okM a || okM b) = true then .ok (.d (.int (a * b))) else .bad := nrfl rfl
@[simp] theorem revS_ol : revS (.ol xs) = .ok (.ol xs.reverse) := nrfl rfl
@[simp] theorem revS_l : revS (.d (.list xs)) = .ok (.ol xs.reverse) := nrfl rfl
@[simp] theorem isbS_d (l : Bool) : isbS neg (.d d) (.d (.bool l)) = .ok (.d (.bool (if neg then !isbD d l else isbD d l))) := nrfl rfl
@[simp] theorem isbS_ol (l : Bool) : isbS neg (.ol xs) (.d (.bool l)) = .ok (.d (.bool (if neg then !isbD (.list xs) l else isbD (.list xs) l))) := nrfl rfl
@[simp] theorem isbD_b (l : Bool) : isbD (.bool k) l = decide (k = l) := nrfl rfl
@[simp] theorem isbD_i (l : Bool) : isbD (.int a) l = false := nrfl rfl
@[simp] theorem isbD_s (l : Bool) : isbD (.str x) l = false := nrfl rfl
@[simp] theorem isbD_n (l : Bool) : isbD .none l = false := nrfl rfl
@[simp] theorem isbD_l (l : Bool) : isbD (.list xs) l = false := nrfl rfl
@[simp] theorem isbD_t (l : Bool) : isbD (.tuple xs) l = false := nrfl rfl
@[simp] theorem modS_i : modS (.d (.int a)) (.d (.int b)) = if 0 < b then .ok (.d (.int (a % b))) else .bad := nrfl rfl
@[simp] theorem fdivS_i : fdivS (.d (.int a)) (.d (.int b)) = if 0 < b ∧ b < 1073741824 then .ok (.d (.int (a / b))) else .bad := nrfl rfl
@[simp] theorem powS_10_18 : powS (.d (.int 10)) (.d (.int 18)) = .ok (.d (.int 1000000000000000000)) := nrfl rfl
@[simp] theorem ltS_i : ltS (.d (.int a)) (.d (.int b)) = .ok (.d (.bool (decide (a < b)))) := nrfl rfl
@[simp] theorem leS_i : leS (.d (.int a)) (.d (.int b)) = .ok (.d (.bool (decide (a ≤ b)))) := nrfl rfl
@[simp] theorem gtS_i : gtS (.d (.int a)) (.d (.int b)) = .ok (.d (.bool (decide (b < a)))) := nrfl rfl
@[simp] theorem geS_i : geS (.d (.int a)) (.d (.int b)) = .ok (.d (.bool (decide (b ≤ a)))) := nrfl rfl
@[simp] theorem negS_i : negS (.d (.int a)) = .ok (.d (.int (-a))) := nrfl rfl
@[simp] theorem eqS_i : eqS neg (.d (.int a)) (.d (.int b)) = .ok (.d (.bool (if neg then !decide (a = b) else decide (a = b)))) := nrfl rfl
@[simp] theorem eqS_s : eqS neg (.d (.str x)) (.d (.str y)) = .ok (.d (.bool (if neg then !decide (x = y) else decide (x = y)))) := nrfl rfl
@[simp] theorem eqS_b (l : Bool) : eqS neg (.d (.bool k)) (.d (.bool l)) = .ok (.d (.bool (if neg then !decide (k = l) else decide (k = l)))) := nrfl rfl
@[simp] theorem isnS_d : isnS neg (.d d) (.d .none) = .ok (.d (.bool (if neg then !isN d else isN d))) := nrfl rfl
@[simp] theorem isnS_ol : isnS neg (.ol xs) (.d .none) = .ok (.d (.bool neg)) := nrfl rfl
@[simp] theorem isN_n : isN .none = true := nrfl rfl
@[simp] theorem isN_i : isN (.int a) = false := nrfl rfl
@[simp] theorem isN_b : isN (.bool k) = false := nrfl rfl
@[simp] theorem isN_s : isN (.str x) = false := nrfl rfl
@[simp] theorem isN_t : isN (.tuple xs) = false := nrfl rfl
@[simp] theorem isN_l : isN (.list xs) = false := nrfl rfl
@[simp] theorem lenS_l : lenS [.d (.list xs)] = .ok (.d (.int xs.length)) := nrfl rfl
@[simp] theorem lenS_ol : lenS [.ol xs] = .ok (.d (.int xs.length)) := nrfl rfl
@[simp] theorem lenS_t : lenS [.d (.tuple xs)] = .ok (.d (.int xs.length)) := nrfl rfl
@[simp] theorem intS_i : intS [.d (.int a)] = .ok (.d (.int a)) := nrfl rfl
@[simp] theorem intS_b : intS [.d (.bool k)] = .ok (.d (.int (if k then 1 else 0))) := nrfl rfl
@[simp] theorem max2S_i : max2S [.d (.int a), .d (.int b)] = .ok (.d (.int (imax a b))) := nrfl rfl
@[simp] theorem min2S_i : min2S [.d (.int a), .d (.int b)] = .ok (.d (.int (imin a b))) := nrfl rfl
@[simp] theorem listS_l : listS [.d (.list xs)] = .ok (.ol xs) := nrfl rfl
@[simp] theorem listS_ol : listS [.ol xs] = .ok (.ol xs) := nrfl rfl
@[simp] theorem listS_t : listS [.d (.tuple xs)] = .ok (.ol xs) := nrfl rfl
@[simp] theorem tupS_l : tupS [.d (.list xs)] = .ok (.d (.tuple xs)) := nrfl rfl
@[simp] theorem tupS_ol : tupS [.ol xs] = .ok (.d (.tuple xs)) := nrfl rfl
@[simp] theorem tupS_t : tupS [.d (.tuple xs)] = .ok (.d (.tuple xs)) := nrfl rfl
@[simp] theorem ixS_l : ixS (.d (.list xs)) (.d (.int a)) = (match atI xs a with | some d => .ok (.d d) | none => .bad) := nrfl rfl
@[simp] theorem ixS_ol : ixS (.ol xs) (.d (.int a)) = (match atI xs a with | some d => .ok (.d d) | none => .bad) := nrfl rfl
@[simp] theorem ixS_t : ixS (.d (.tuple xs)) (.d (.int a)) = (match atI xs a with | some d => .ok (.d d) | none => .bad) := nrfl rfl
@[simp] theorem slS_l (lo hi : Option Int) : slS (.d (.list xs)) lo hi = .ok (.ol (cutD xs lo hi)) := nrfl rfl
@[simp] theorem slS_ol (lo hi : Option Int) : slS (.ol xs) lo hi = .ok (.ol (cutD xs lo hi)) := nrfl rfl
@[simp] theorem slS_t (lo hi : Option Int) : slS (.d (.tuple xs)) lo hi = .ok (.d (.tuple (cutD xs lo hi))) := nrfl rfl
@[simp] theorem tyN_i : tyN (.int a) = "int" := nrfl rfl
@[simp] theorem tyN_b : tyN (.bool k) = "bool" := nrfl rfl
@[simp] theorem tyN_s : tyN (.str x) = "str" := nrfl rfl
@[simp] theorem tyN_n : tyN .none = "NoneType" := nrfl rfl
@[simp] theorem tyN_l : tyN (.list xs) = "list" := nrfl rfl
@[simp] theorem tyN_t : tyN (.tuple xs) = "tuple" := nrfl rfl
end
@[simp] theorem kit_ii : kitB "int" "int" = some true := by decide +kernel
@[simp] theorem kit_ib : kitB "int" "bool" = some false := by decide +kernel
@[simp] theorem kit_is : kitB "int" "str" = some false := by decide +kernel
@[simp] theorem kit_it : kitB "int" "tuple" = some false := by decide +kernel
@[simp] theorem kit_il : kitB "int" "list" = some false := by decide +kernel
@[simp] theorem kit_bi : kitB "bool" "int" = some true := by decide +kernel
@[simp] theorem kit_bb : kitB "bool" "bool" = some true := by decide +kernel
@[simp] theorem kit_bs : kitB "bool" "str" = some false := by decide +kernel
@[simp] theorem kit_bt : kitB "bool" "tuple" = some false := by decide +kernel
@[simp] theorem kit_bl : kitB "bool" "list" = some false := by decide +kernel
@[simp] theorem kit_si : kitB "str" "int" = some false := by decide +kernel
@[simp] theorem kit_sb : kitB "str" "bool" = some false := by decide +kernel
@[simp] theorem kit_ss : kitB "str" "str" = some true := by decide +kernel
@[simp] theorem kit_st : kitB "str" "tuple" = some false := by decide +kernel
@[simp] theorem kit_sl : kitB "str" "list" = some false := by decide +kernel
@[simp] theorem kit_ni : kitB "NoneType" "int" = some false := by decide +kernel
@[simp] theorem kit_nb : kitB "NoneType" "bool" = some false := by decide +kernel
@[simp] theorem kit_ns : kitB "NoneType" "str" = some false := by decide +kernel
@[simp] theorem kit_nt : kitB "NoneType" "tuple" = some false := by decide +kernel
@[simp] theorem kit_nl : kitB "NoneType" "list" = some false := by decide +kernel
@[simp] theorem kit_ti : kitB "tuple" "int" = some false := by decide +kernel
@[simp] theorem kit_tb : kitB "tuple" "bool" = some false := by decide +kernel
@[simp] theorem kit_ts : kitB "tuple" "str" = some false := by decide +kernel
@[simp] theorem kit_tt : kitB "tuple" "tuple" = some true := by decide +kernel
@[simp] theorem kit_tl : kitB "tuple" "list" = some false := by decide +kernel
@[simp] theorem kit_li : kitB "list" "int" = some false := by decide +kernel
@[simp] theorem kit_lb : kitB "list" "bool" = some false := by decide +kernel
@[simp] theorem kit_ls : kitB "list" "str" = some false := by decide +kernel
@[simp] theorem kit_lt : kitB "list" "tuple" = some false := by decide +kernel
@[simp] theorem kit_ll : kitB "list" "list" = some true := by decide +kernel
@[simp] theorem okR_0 : okR 0 = true := okR_of (by omega) (by omega)
@[simp] theorem okR_1 : okR 1 = true := okR_of (by omega) (by omega)
@[simp] theorem okR_2 : okR 2 = true := okR_of (by omega) (by omega)
@[simp] theorem okR_3 : okR 3 = true := okR_of (by omega) (by omega)
@[simp] theorem okR_4 : okR 4 = true := okR_of (by omega) (by omega)
@[simp] theorem okR_5 : okR 5 = true := okR_of (by omega) (by omega)
@[simp] theorem okR_6 : okR 6 = true := okR_of (by omega) (by omega)
@[simp] theorem okR_7 : okR 7 = true := okR_of (by omega) (by omega)
@[simp] theorem okR_8 : okR 8 = true := okR_of (by omega) (by omega)
@[simp] theorem okR_9 : okR 9 = true := okR_of (by omega) (by omega)
@[simp] theorem okR_10 : okR 10 = true := okR_of (by omega) (by omega)
@[simp] theorem okR_11 : okR 11 = true := okR_of (by omega) (by omega)
@[simp] theorem okR_12 : okR 12 = true := okR_of (by omega) (by omega)
@[simp] theorem okR_13 : okR 13 = true := okR_of (by omega) (by omega)
@[simp] theorem okR_14 : okR 14 = true := okR_of (by omega) (by omega)
@[simp] theorem okR_15 : okR 15 = true := okR_of (by omega) (by omega)
@[simp] theorem okR_16 : okR 16 = true := okR_of (by omega) (by omega)
@[simp] theorem okR_17 : okR 17 = true := okR_of (by omega) (by omega)
@[simp] theorem okR_18 : okR 18 = true := okR_of (by omega) (by omega)
@[simp] theorem okR_19 : okR 19 = true := okR_of (by omega) (by omega)
@[simp] theorem okR_20 : okR 20 = true := okR_of (by omega) (by omega)
@[simp] theorem okR_21 : okR 21 = true := okR_of (by omega) (by omega)
@[simp] theorem okR_22 : okR 22 = true := okR_of (by omega) (by omega)
@[simp] theorem okR_23 : okR 23 = true := okR_of (by omega) (by omega)
@[simp] theorem okR_24 : okR 24 = true := okR_of (by omega) (by omega)
@[simp] theorem okR_25 : okR 25 = true := okR_of (by omega) (by omega)
@[simp] theorem okR_26 : okR 26 = true := okR_of (by omega) (by omega)
@[simp] theorem okR_27 : okR 27 = true := okR_of (by omega) (by omega)
@[simp] theorem okR_28 : okR 28 = true := okR_of (by omega) (by omega)
@[simp] theorem okR_29 : okR 29 = true := okR_of (by omega) (by omega)
@[simp] theorem okR_30 : okR 30 = true := okR_of (by omega) (by omega)
@[simp] theorem okR_31 : okR 31 = true := okR_of (by omega) (by omega)
@[simp] theorem okR_32 : okR 32 = true := okR_of (by omega) (by omega)
@[simp] theorem okR_33 : okR 33 = true := okR_of (by omega) (by omega)
@[simp] theorem okR_34 : okR 34 = true := okR_of (by omega) (by omega)
@[simp] theorem okR_35 : okR 35 = true := okR_of (by omega) (by omega)
@[simp] theorem okR_36 : okR 36 = true := okR_of (by omega) (by omega)
@[simp] theorem okR_37 : okR 37 = true := okR_of (by omega) (by omega)
@[simp] theorem okR_38 : okR 38 = true := okR_of (by omega) (by omega)
@[simp] theorem okR_39 : okR 39 = true := okR_of (by omega) (by omega)
@[simp] theorem okR_40 : okR 40 = true := okR_of (by omega) (by omega)
@[simp] theorem okR_60 : okR 60 = true := okR_of (by omega) (by omega)
@[simp] theorem okR_63 : okR 63 = true := okR_of (by omega) (by omega)
@[simp] theorem okR_64 : okR 64 = true := okR_of (by omega) (by omega)
@[simp] theorem okR_100 : okR 100 = true := okR_of (by omega) (by omega)
@[simp] theorem okR_300 : okR 300 = true := okR_of (by omega) (by omega)
@[simp] theorem okR_1000 : okR 1000 = true := okR_of (by omega) (by omega)
@[simp] theorem okM_0 : okM 0 = true := okM_of (by omega) (by omega)
@[simp] theorem okM_1 : okM 1 = true := okM_of (by omega) (by omega)
@[simp] theorem okM_2 : okM 2 = true := okM_of (by omega) (by omega)
@[simp] theorem okM_3 : okM 3 = true := okM_of (by omega) (by omega)
@[simp] theorem okM_4 : okM 4 = true := okM_of (by omega) (by omega)
@[simp] theorem okM_5 : okM 5 = true := okM_of (by omega) (by omega)
@[simp] theorem okM_6 : okM 6 = true := okM_of (by omega) (by omega)
@[simp] theorem okM_7 : okM 7 = true := okM_of (by omega) (by omega)
@[simp] theorem okM_8 : okM 8 = true := okM_of (by omega) (by omega)
@[simp] theorem okM_9 : okM 9 = true := okM_of (by omega) (by omega)
@[simp] theorem okM_10 : okM 10 = true := okM_of (by omega) (by omega)
@[simp] theorem okM_11 : okM 11 = true := okM_of (by omega) (by omega)
@[simp] theorem okM_12 : okM 12 = true := okM_of (by omega) (by omega)
@[simp] theorem okM_13 : okM 13 = true := okM_of (by omega) (by omega)
@[simp] theorem okM_14 : okM 14 = true := okM_of (by omega) (by omega)
@[simp] theorem okM_15 : okM 15 = true := okM_of (by omega) (by omega)
@[simp] theorem okM_16 : okM 16 = true := okM_of (by omega) (by omega)
@[simp] theorem okM_17 : okM 17 = true := okM_of (by omega) (by omega)
@[simp] theorem okM_18 : okM 18 = true := okM_of (by omega) (by omega)
@[simp] theorem okM_19 : okM 19 = true := okM_of (by omega) (by omega)
@[simp] theorem okM_20 : okM 20 = true := okM_of (by omega) (by omega)
@[simp] theorem okM_21 : okM 21 = true := okM_of (by omega) (by omega)
@[simp] theorem okM_22 : okM 22 = true := okM_of (by omega) (by omega)
@[simp] theorem okM_23 : okM 23 = true := okM_of (by omega) (by omega)
@[simp] theorem okM_24 : okM 24 = true := okM_of (by omega) (by omega)
@[simp] theorem okM_25 : okM 25 = true := okM_of (by omega) (by omega)
@[simp] theorem okM_26 : okM 26 = true := okM_of (by omega) (by omega)
@[simp] theorem okM_27 : okM 27 = true := okM_of (by omega) (by omega)
@[simp] theorem okM_28 : okM 28 = true := okM_of (by omega) (by omega)
@[simp] theorem okM_29 : okM 29 = true := okM_of (by omega) (by omega)
@[simp] theorem okM_30 : okM 30 = true := okM_of (by omega) (by omega)
@[simp] theorem okM_31 : okM 31 = true := okM_of (by omega) (by omega)
@[simp] theorem okM_32 : okM 32 = true := okM_of (by omega) (by omega)
@[simp] theorem okM_33 : okM 33 = true := okM_of (by omega) (by omega)
@[simp] theorem okM_34 : okM 34 = true := okM_of (by omega) (by omega)
@[simp] theorem okM_35 : okM 35 = true := okM_of (by omega) (by omega)
@[simp] theorem okM_36 : okM 36 = true := okM_of (by omega) (by omega)
@[simp] theorem okM_37 : okM 37 = true := okM_of (by omega) (by omega)
@[simp] theorem okM_38 : okM 38 = true := okM_of (by omega) (by omega)
@[simp] theorem okM_39 : okM 39 = true := okM_of (by omega) (by omega)
@[simp] theorem okM_40 : okM 40 = true := okM_of (by omega) (by omega)
@[simp] theorem okM_100 : okM 100 = true := okM_of (by omega) (by omega)
@[simp] theorem okM_1000 : okM 1000 = true := okM_of (by omega) (by omega)
@[simp] theorem okM_48271 : okM 48271 = true := okM_of (by omega) (by omega)
@[simp] theorem okM_69621 : okM 69621 = true := okM_of (by omega) (by omega)
@[simp] theorem okM_104729 : okM 104729 = true := okM_of (by omega) (by omega)
@[simp] theorem okM_7919 : okM 7919 = true := okM_of (by omega) (by omega)
@[simp] theorem okM_30103 : okM 30103 = true := okM_of (by omega) (by omega)
@[simp] theorem okM_128 : okM 128 = true := okM_of (by omega) (by omega)
@[simp] theorem okM_977 : okM 977 = true := okM_of (by omega) (by omega)
@[simp] theorem okM_97 : okM 97 = true := okM_of (by omega) (by omega)
@[simp] theorem okM_200 : okM 200 = true := okM_of (by omega) (by omega)
@[simp] theorem okM_295 : okM 295 = true := okM_of (by omega) (by omega)
@[simp] theorem okM_296 : okM 296 = true := okM_of (by omega) (by omega)
@[simp] theorem okM_1000000 : okM 1000000 = true := okM_of (by omega) (by omega)
theorem line16 : (sizeLine : Nat) = 16777216 := sizeLine_eq

/-! ### loops -/
theorem forF_inv {k : D → En → R En} {b : En → R Fl} (Inv : Nat → En → Prop) : ∀ (xs : List D) (ρ : En), Inv 0 ρ → (∀ i x ρ, xs[i]? = some x → Inv i ρ → ∃ ρ1 ρ2, k x ρ = .ok ρ1 ∧ (b ρ1 = .ok (.nx ρ2) ∨ b ρ1 = .ok (.ct ρ2)) ∧ Inv (i + 1) ρ2) → ∃ ρ', forF k b xs ρ = .ok (.nx ρ') ∧ Inv xs.length ρ' := by
  intro xs
  suffices h : ∀ (ys : List D) (i : Nat) (ρ : En), ys = xs.drop i → i ≤ xs.length → Inv i ρ → (∀ i x ρ, xs[i]? = some x → Inv i ρ → ∃ ρ1 ρ2, k x ρ = .ok ρ1 ∧ (b ρ1 = .ok (.nx ρ2) ∨ b ρ1 = .ok (.ct ρ2)) ∧ Inv (i + 1) ρ2) → ∃ ρ', forF k b ys ρ = .ok (.nx ρ') ∧ Inv xs.length ρ' by
    intro ρ h0 hs
    exact h xs 0 ρ (by simp) (Nat.zero_le _) h0 hs
  intro ys
  induction ys with
  | nil =>
    intro i ρ e hi h0 hs
    have : xs.length ≤ i := by
      have := congrArg List.length e
      simp at this; omega
    have e2 : i = xs.length := by omega
    subst e2
    exact ⟨ρ, rfl, h0⟩
  | cons y ys ih =>
    intro i ρ e hi h0 hs
    have hlt : i < xs.length := by
      have := congrArg List.length e
      simp at this; omega
    rw [List.drop_eq_getElem_cons hlt] at e
    injection e with e1 e2
    obtain ⟨ρ1, ρ2, h1, h2, h3⟩ := hs i y ρ (by rw [e1]; exact List.getElem?_eq_getElem hlt) h0
    obtain ⟨ρ', h4, h5⟩ := ih (i + 1) ρ2 e2 hlt h3 hs
    refine ⟨ρ', ?_, h5⟩
    unfold forF
    simp only [h1]
    rcases h2 with h2 | h2
    · rw [h2]; exact h4
    · rw [h2]; exact h4
/-- a loop whose every turn goes through, by a typed state -/
theorem forF_fold {S : Type} {k : D → En → R En} {b : En → R Fl} (enc : S → En) (stp : S → D → S) : ∀ (xs : List D) (s : S), (∀ s x, x ∈ xs → ∃ ρ1, k x (enc s) = .ok ρ1 ∧ b ρ1 = .ok (.nx (enc (stp s x)))) → forF k b xs (enc s) = .ok (.nx (enc (xs.foldl stp s)))
  | [], s, _ => rfl
  | x :: xs, s, h => by
    obtain ⟨ρ1, h1, h2⟩ := h s x List.mem_cons_self
    unfold forF
    simp only [h1, h2, ok_bind, List.foldl_cons]
    exact forF_fold enc stp xs _ fun s x hx => h s x (List.mem_cons_of_mem _ hx)
theorem lcF_map {k : D → En → R En} {t : En → R Bool} {e : En → R SV} {ρ0 : En} (p : D → Bool) (g : D → D) : ∀ (xs : List D), (∀ x, x ∈ xs → ∃ ρ1, k x ρ0 = .ok ρ1 ∧ t ρ1 = .ok (p x) ∧ (p x = true → ∃ r, e ρ1 = .ok r ∧ datS r = .ok (g x))) → lcF k t e ρ0 xs = .ok ((xs.filter p).map g)
  | [], _ => rfl
  | x :: xs, h => by
    obtain ⟨ρ1, h1, h2, h3⟩ := h x List.mem_cons_self
    have ih := lcF_map (k := k) (t := t) (e := e) (ρ0 := ρ0) p g xs fun x hx => h x (List.mem_cons_of_mem _ hx)
    unfold lcF
    simp only [h1, h2, ok_bind]
    cases hp : p x with
    | false =>
      rw [List.filter_cons_of_neg (by simp [hp])]
      simpa using ih
    | true =>
      obtain ⟨r, h4, h5⟩ := h3 hp
      rw [List.filter_cons_of_pos hp]
      simp [h4, h5, ih]
@[simp] theorem rng_len (lo hi : Int) : (rng lo hi).length = (hi - lo).toNat := by unfold rng; simp
theorem rng_at {lo hi : Int} {i : Nat} {x : D} (h : (rng lo hi)[i]? = some x) : x = .int (lo + (i : Nat)) ∧ i < (hi - lo).toNat := by
  unfold rng at h
  rw [List.getElem?_map] at h
  cases e : (List.range (hi - lo).toNat)[i]? with
  | none => rw [e] at h; cases h
  | some j =>
    rw [e] at h
    obtain ⟨h1, h2⟩ := List.getElem?_eq_some_iff.mp e
    rw [List.length_range] at h1
    rw [List.getElem_range] at h2
    subst h2
    cases h
    exact ⟨rfl, h1⟩
theorem atI_of {α : Type} {xs : List α} {i : Int} (h0 : 0 ≤ i) (h1 : i < xs.length) : atI xs i = some (xs[i.toNat]'(by omega)) := by
  have q : atI xs ((i.toNat : Nat) : Int) = some (xs[i.toNat]'(by omega)) := atI_nat (List.getElem?_eq_getElem _)
  rw [Int.toNat_of_nonneg h0] at q
  exact q

theorem atI_cast {α : Type} (xs : List α) (n : Nat) : atI xs (n : Int) = xs[n]? := by
  by_cases h : n < xs.length
  · rw [List.getElem?_eq_getElem h]; exact atI_nat (List.getElem?_eq_getElem h)
  · rw [List.getElem?_eq_none (by omega)]
    unfold atI ixN
    rw [if_pos (by omega), if_neg (by omega)] <;> rfl
@[simp] theorem atI_0 {α : Type} (xs : List α) : atI xs 0 = xs[0]? := atI_cast xs 0
@[simp] theorem atI_1 {α : Type} (xs : List α) : atI xs 1 = xs[1]? := atI_cast xs 1
@[simp] theorem atI_2 {α : Type} (xs : List α) : atI xs 2 = xs[2]? := atI_cast xs 2
@[simp] theorem atI_3 {α : Type} (xs : List α) : atI xs 3 = xs[3]? := atI_cast xs 3
@[simp] theorem atI_4 {α : Type} (xs : List α) : atI xs 4 = xs[4]? := atI_cast xs 4
@[simp] theorem atI_5 {α : Type} (xs : List α) : atI xs 5 = xs[5]? := atI_cast xs 5
@[simp] theorem atI_6 {α : Type} (xs : List α) : atI xs 6 = xs[6]? := atI_cast xs 6
@[simp] theorem atI_7 {α : Type} (xs : List α) : atI xs 7 = xs[7]? := atI_cast xs 7
@[simp] theorem atI_8 {α : Type} (xs : List α) : atI xs 8 = xs[8]? := atI_cast xs 8
@[simp] theorem atI_9 {α : Type} (xs : List α) : atI xs 9 = xs[9]? := atI_cast xs 9
@[simp] theorem atI_10 {α : Type} (xs : List α) : atI xs 10 = xs[10]? := atI_cast xs 10
@[simp] theorem atI_11 {α : Type} (xs : List α) : atI xs 11 = xs[11]? := atI_cast xs 11
@[simp] theorem atI_12 {α : Type} (xs : List α) : atI xs 12 = xs[12]? := atI_cast xs 12
@[simp] theorem atI_13 {α : Type} (xs : List α) : atI xs 13 = xs[13]? := atI_cast xs 13
@[simp] theorem atI_14 {α : Type} (xs : List α) : atI xs 14 = xs[14]? := atI_cast xs 14
@[simp] theorem atI_15 {α : Type} (xs : List α) : atI xs 15 = xs[15]? := atI_cast xs 15
@[simp] theorem atI_16 {α : Type} (xs : List α) : atI xs 16 = xs[16]? := atI_cast xs 16
@[simp] theorem atI_17 {α : Type} (xs : List α) : atI xs 17 = xs[17]? := atI_cast xs 17
@[simp] theorem atI_18 {α : Type} (xs : List α) : atI xs 18 = xs[18]? := atI_cast xs 18
@[simp] theorem atI_19 {α : Type} (xs : List α) : atI xs 19 = xs[19]? := atI_cast xs 19
@[simp] theorem atI_20 {α : Type} (xs : List α) : atI xs 20 = xs[20]? := atI_cast xs 20
@[simp] theorem atI_21 {α : Type} (xs : List α) : atI xs 21 = xs[21]? := atI_cast xs 21
@[simp] theorem atI_22 {α : Type} (xs : List α) : atI xs 22 = xs[22]? := atI_cast xs 22
@[simp] theorem atI_23 {α : Type} (xs : List α) : atI xs 23 = xs[23]? := atI_cast xs 23
@[simp] theorem atI_24 {α : Type} (xs : List α) : atI xs 24 = xs[24]? := atI_cast xs 24
@[simp] theorem atI_25 {α : Type} (xs : List α) : atI xs 25 = xs[25]? := atI_cast xs 25
@[simp] theorem atI_26 {α : Type} (xs : List α) : atI xs 26 = xs[26]? := atI_cast xs 26
@[simp] theorem atI_27 {α : Type} (xs : List α) : atI xs 27 = xs[27]? := atI_cast xs 27
@[simp] theorem atI_28 {α : Type} (xs : List α) : atI xs 28 = xs[28]? := atI_cast xs 28
@[simp] theorem atI_29 {α : Type} (xs : List α) : atI xs 29 = xs[29]? := atI_cast xs 29
@[simp] theorem atI_30 {α : Type} (xs : List α) : atI xs 30 = xs[30]? := atI_cast xs 30
@[simp] theorem atI_31 {α : Type} (xs : List α) : atI xs 31 = xs[31]? := atI_cast xs 31
@[simp] theorem atI_32 {α : Type} (xs : List α) : atI xs 32 = xs[32]? := atI_cast xs 32
@[simp] theorem atI_33 {α : Type} (xs : List α) : atI xs 33 = xs[33]? := atI_cast xs 33
@[simp] theorem atI_34 {α : Type} (xs : List α) : atI xs 34 = xs[34]? := atI_cast xs 34
@[simp] theorem atI_35 {α : Type} (xs : List α) : atI xs 35 = xs[35]? := atI_cast xs 35
@[simp] theorem atI_36 {α : Type} (xs : List α) : atI xs 36 = xs[36]? := atI_cast xs 36
@[simp] theorem atI_37 {α : Type} (xs : List α) : atI xs 37 = xs[37]? := atI_cast xs 37
@[simp] theorem atI_38 {α : Type} (xs : List α) : atI xs 38 = xs[38]? := atI_cast xs 38
@[simp] theorem atI_39 {α : Type} (xs : List α) : atI xs 39 = xs[39]? := atI_cast xs 39
@[simp] theorem atI_40 {α : Type} (xs : List α) : atI xs 40 = xs[40]? := atI_cast xs 40
/-! ### drawn numbers -/
def drawsB : En → R Fl :=
    (seqS (asgS 2 (dispL nilA))
    (seqS (asgS 3 (callB intS (conB (peek 0) nilB)))
    (seqS (ifS (asT (bin geS (peek 3) (bin powS (kon (.int 10)) (kon (.int 18))))) (forS (rngD1 (conB (peek 1) nilB)) (setD 4) (kill [4] (ifS (asT (bin gtS (peek 3) (kon (.int 0)))) (seqS (appS 2 (bin modS (callB intS (conB (peek 3) nilB)) (kon (.int 1000))))
    (asgS 3 (bin fdivS (peek 3) (kon (.int 1000))))) skip))) skip)
    (seqS (asgS 5 (bin modS (callB intS (conB (bin addS (bin mulA (callB intS (conB (peek 0) nilB)) (kon (.int 48271))) (kon (.int 11))) nilB)) (kon (.int 2147483647))))
    (seqS (forS (rngD1 (conB (peek 1) nilB)) (setD 4) (kill [4] (seqS (asgS 5 (bin modS (callB intS (conB (bin addS (bin addS (bin mulA (peek 5) (kon (.int 48271))) (bin mulA (peek 4) (kon (.int 69621)))) (kon (.int 7))) nilB)) (kon (.int 2147483647))))
    (ifS (asT (bin ltS (callB lenS (conB (peek 2) nilB)) (peek 1))) (appS 2 (bin modS (callB intS (conB (bin modS (callB intS (conB (bin addS (bin mulA (peek 5) (kon (.int 69621))) (kon (.int 5))) nilB)) (kon (.int 2147483629))) nilB)) (kon (.int 1000)))) skip))))
    (retV 2))))))
def drawsF : List D → R SV := runB 2 6 drawsB
def Small (ns : List Int) : Prop := ∀ x ∈ ns, 0 ≤ x ∧ x < 1000
theorem Small.app {ns : List Int} (h : Small ns) {x : Int} (h0 : 0 ≤ x) (h1 : x < 1000) : Small (ns ++ [x]) := fun y hy => by
  rcases List.mem_append.mp hy with z | z
  · exact h y z
  · simp at z; subst z; exact ⟨h0, h1⟩
def drA : En → R Fl := kill [4] (ifS (asT (bin gtS (peek 3) (kon (.int 0)))) (seqS (appS 2 (bin modS (callB intS (conB (peek 3) nilB)) (kon (.int 1000))))
    (asgS 3 (bin fdivS (peek 3) (kon (.int 1000))))) skip)
def drB : En → R Fl := kill [4] (seqS (asgS 5 (bin modS (callB intS (conB (bin addS (bin addS (bin mulA (peek 5) (kon (.int 48271))) (bin mulA (peek 4) (kon (.int 69621)))) (kon (.int 7))) nilB)) (kon (.int 2147483647))))
    (ifS (asT (bin ltS (callB lenS (conB (peek 2) nilB)) (peek 1))) (appS 2 (bin modS (callB intS (conB (bin modS (callB intS (conB (bin addS (bin mulA (peek 5) (kon (.int 69621))) (kon (.int 5))) nilB)) (kon (.int 2147483629))) nilB)) (kon (.int 1000)))) skip))
theorem drA_step (c m rest : Int) (rows : List Int) (i : Int) (hlt : rows.length < sizeLine) (hs : Small rows) : ∃ (rows' : List Int) (rest' : Int), drA [some (.d (.int c)), some (.d (.int m)), some (.ol (rows.map PyData.int)), some (.d (.int rest)), some (.d (.int i)), none]
    = .ok (.nx [some (.d (.int c)), some (.d (.int m)), some (.ol (rows'.map PyData.int)), some (.d (.int rest')), none, none]) ∧ rows'.length ≤ rows.length + 1 ∧ Small rows' := by
  unfold drA
  by_cases hr : 0 < rest
  · exact ⟨rows ++ [rest % 1000], rest / 1000, by simp [hr, hlt], by simp, hs.app (by omega) (by omega)⟩
  · exact ⟨rows, rest, by simp [hr], by omega, hs⟩
theorem drB_step (c m rest st : Int) (rows : List Int) (i : Int) (hlt : rows.length < sizeLine) (hs : Small rows) : ∃ (rows' : List Int) (st' : Int), drB [some (.d (.int c)), some (.d (.int m)), some (.ol (rows.map PyData.int)), some (.d (.int rest)), some (.d (.int i)), some (.d (.int st))]
    = .ok (.nx [some (.d (.int c)), some (.d (.int m)), some (.ol (rows'.map PyData.int)), some (.d (.int rest)), none, some (.d (.int st'))]) ∧ ((rows.length : Int) < m → rows'.length = rows.length + 1) ∧ (¬ (rows.length : Int) < m → rows'.length = rows.length) ∧ Small rows' := by
  unfold drB
  generalize hq : (2147483647 : Int) = q
  have q0 : 0 < q := by omega
  generalize hp : (2147483629 : Int) = p
  have p0 : 0 < p := by omega
  by_cases hr : (rows.length : Int) < m
  · exact ⟨rows ++ [((st * 48271 + i * 69621 + 7) % q * 69621 + 5) % p % 1000], (st * 48271 + i * 69621 + 7) % q, by simp [hr, hlt, q0, p0], fun _ => by simp, fun z => absurd hr z, hs.app (by omega) (by omega)⟩
  · exact ⟨rows, (st * 48271 + i * 69621 + 7) % q, by simp [hr, q0], fun z => absurd z hr, fun _ => rfl, hs⟩
theorem draws1 (c m : Int) (h0 : 0 ≤ m) (hm : m ≤ 1000) : ∃ (rows : List Int) (rest : Int), forF (setD 4) drA (rng 0 m) [some (.d (.int c)), some (.d (.int m)), some (.ol []), some (.d (.int c)), none, none]
      = .ok (.nx [some (.d (.int c)), some (.d (.int m)), some (.ol (rows.map PyData.int)), some (.d (.int rest)), none, none]) ∧ rows.length ≤ m.toNat ∧ Small rows := by
  have hz := line16
  obtain ⟨ρ', h1, rows, rest, h2, h3, h4⟩ := forF_inv (k := setD 4) (b := drA) (fun i ρ => ∃ (rows : List Int) (rest : Int), ρ = [some (.d (.int c)), some (.d (.int m)), some (.ol (rows.map PyData.int)), some (.d (.int rest)), none, none] ∧ rows.length ≤ i ∧ Small rows) (rng 0 m) _ ⟨[], c, rfl, by simp, fun _ h => nomatch h⟩ (by
      rintro i x _ hx ⟨rows, rest, rfl, hl, hs⟩
      obtain ⟨rfl, hi⟩ := rng_at hx
      obtain ⟨rows', rest', e, h1, h2⟩ := drA_step c m rest rows (0 + (i : Nat)) (by omega) hs
      exact ⟨_, _, rfl, .inl e, rows', rest', rfl, by omega, h2⟩)
  refine ⟨rows, rest, ?_, by simpa using h3, h4⟩
  rw [← h2]; exact h1
theorem draws2 (c m rest st : Int) (rows : List Int) (h0 : 0 ≤ m) (hm : m ≤ 1000) (hl : rows.length ≤ m.toNat) (hs : Small rows) : ∃ (rows' : List Int) (st' : Int), forF (setD 4) drB (rng 0 m) [some (.d (.int c)), some (.d (.int m)), some (.ol (rows.map PyData.int)), some (.d (.int rest)), none, some (.d (.int st))]
      = .ok (.nx [some (.d (.int c)), some (.d (.int m)), some (.ol (rows'.map PyData.int)), some (.d (.int rest)), none, some (.d (.int st'))]) ∧ rows'.length = m.toNat ∧ Small rows' := by
  have hz := line16
  obtain ⟨ρ', e2, st, rows2, e3, h3, h4, h5⟩ := forF_inv (k := setD 4) (b := drB) (fun i ρ => ∃ (st : Int) (rows : List Int), ρ = [some (.d (.int c)), some (.d (.int m)), some (.ol (rows.map PyData.int)), some (.d (.int rest)), none, some (.d (.int st))] ∧ i ≤ rows.length ∧ rows.length ≤ m.toNat ∧ Small rows) (rng 0 m) _ ⟨st, rows, rfl, Nat.zero_le _, hl, hs⟩ (by
      rintro i x _ hx ⟨st, rows, rfl, h1, h2, hs⟩
      obtain ⟨rfl, hi⟩ := rng_at hx
      obtain ⟨rows', st', e, g1, g2, g3⟩ := drB_step c m rest st rows (0 + (i : Nat)) (by omega) hs
      refine ⟨_, _, rfl, .inl e, st', rows', rfl, ?_⟩
      by_cases hr : (rows.length : Int) < m
      · have := g1 hr; exact ⟨by omega, by omega, g3⟩
      · have := g2 hr; exact ⟨by omega, by omega, g3⟩)
  rw [rng_len] at h3
  refine ⟨rows2, st, ?_, by omega, h5⟩
  rw [← e3]; exact e2
theorem drawsB_eq : drawsB = (seqS (asgS 2 (dispL nilA))
    (seqS (asgS 3 (callB intS (conB (peek 0) nilB)))
    (seqS (ifS (asT (bin geS (peek 3) (bin powS (kon (.int 10)) (kon (.int 18))))) (forS (rngD1 (conB (peek 1) nilB)) (setD 4) drA) skip)
    (seqS (asgS 5 (bin modS (callB intS (conB (bin addS (bin mulA (callB intS (conB (peek 0) nilB)) (kon (.int 48271))) (kon (.int 11))) nilB)) (kon (.int 2147483647))))
    (seqS (forS (rngD1 (conB (peek 1) nilB)) (setD 4) drB)
    (retV 2)))))) := rfl
theorem draws_ok (c : Int) (m : Int) (h0 : 0 ≤ m) (hm : m ≤ 1000) : ∃ ns : List Int, drawsF [.int c, .int m] = .ok (.ol (ns.map PyData.int)) ∧ ns.length = m.toNat ∧ Small ns := by
  have hb : okR m = true := okR_of (by omega) (by omega)
  unfold drawsF runB startE
  rw [drawsB_eq]
  generalize hq : (2147483647 : Int) = q
  have q0 : 0 < q := by omega
  by_cases hc : 1000000000000000000 ≤ c
  · obtain ⟨rows, rest, e1, hl, hs⟩ := draws1 c m h0 hm
    obtain ⟨rows', st', e2, hl2, hs2⟩ := draws2 c m rest ((c * 48271 + 11) % q) rows h0 hm hl hs
    exact ⟨rows', by simp [hc, hb, e1, e2, q0], hl2, hs2⟩
  · obtain ⟨rows', st', e2, hl2, hs2⟩ := draws2 c m c ((c * 48271 + 11) % q) [] h0 hm (Nat.zero_le _) (fun _ h => nomatch h)
    exact ⟨rows', by simp at e2; simp [hc, hb, e2, q0], hl2, hs2⟩
/-- a cell of the script, 0 behind its end -/
def cellB : En → R Fl :=
    (seqS (ifS (asT (bin ltS (peek 1) (callB lenS (conB (peek 0) nilB)))) (retS (callB intS (conB (bin ixS (peek 0) (peek 1)) nilB))) skip)
    (retS (kon (.int 0))))
def cellF : List D → R SV := runB 2 2 cellB
theorem cell_ok (ns : List Int) (k : Int) (hk : 0 ≤ k) : ∃ c : Int, cellF [.list (ns.map PyData.int), .int k] = .ok (.d (.int c)) := by
  unfold cellF runB cellB startE
  by_cases h : k < ns.length
  · refine ⟨ns[k.toNat]'(by omega), ?_⟩
    have e : atI (ns.map PyData.int) k = some (.int (ns[k.toNat]'(by omega))) := by
      rw [atI_of hk (by simpa using h)]; simp
    simp [h, e]
  · exact ⟨0, by simp [h]⟩
end Pl
namespace Pl
open PySem PySem.Spec PyProof.Rows L2
/-! ### lists of ints -/
theorem plain_ints : ∀ ns : List Int, PyData.plainAll (ns.map PyData.int) = true
  | [] => rfl
  | n :: r => by
    show (PyData.plain (.int n) && PyData.plainAll (r.map PyData.int)) = true
    rw [plain_ints r]; rfl
theorem depth_ints : ∀ ns : List Int, PyData.depthAll (ns.map PyData.int) = 0
  | [] => rfl
  | n :: r => by
    show max (PyData.depth (.int n)) (PyData.depthAll (r.map PyData.int)) = 0
    rw [depth_ints r]; rfl
theorem shp_of {d : D} (h1 : PyData.plain d = true) (h2 : PyData.depth d ≤ 60) : shpD d = true := by
  unfold shpD
  rw [h1, decide_eq_true h2]; rfl
theorem shaped_ints (ns : List Int) : shpD (.list (ns.map PyData.int)) = true := by
  refine shp_of (plain_ints ns) ?_
  show PyData.depthAll (ns.map PyData.int) + 1 ≤ 60
  rw [depth_ints]; omega
theorem eqv_int (a b : Int) : PyData.eqv (.int a) (.int b) = (a == b) := by simp [PyData.eqv]
theorem eqvAll_ints : ∀ ns ms : List Int, PyData.eqvAll (ns.map PyData.int) (ms.map PyData.int) = decide (ns = ms)
  | [], [] => by simp [PyData.eqvAll]
  | [], _ :: _ => by simp [PyData.eqvAll]
  | _ :: _, [] => by simp [PyData.eqvAll]
  | n :: r, m :: q => by
    show (PyData.eqvAll (.int n :: r.map PyData.int) (.int m :: q.map PyData.int)) = _
    rw [PyData.eqvAll, eqvAll_ints r q, eqv_int]
    by_cases h : n = m <;> by_cases h2 : r = q <;> simp [h, h2]
theorem eqv_ints (ns ms : List Int) : PyData.eqv (.list (ns.map PyData.int)) (.list (ms.map PyData.int)) = decide (ns = ms) := by
  rw [PyData.eqv]; exact eqvAll_ints ns ms
theorem eqS_ints (neg : Bool) (ns ms : List Int) : eqS neg (.ol (ns.map PyData.int)) (.ol (ms.map PyData.int)) = .ok (.d (.bool (if neg then !decide (ns = ms) else decide (ns = ms)))) := by
  show eqG neg _ _ = _
  unfold eqG
  simp [shaped_ints, eqv_ints]
/-- the ints from a on, before b -/
def irng (a b : Int) : List Int := (List.range (b - a).toNat).map fun k => a + (k : Nat)
theorem rng_irng (a b : Int) : rng a b = (irng a b).map PyData.int := by unfold rng irng; rw [List.map_map]; rfl
theorem irng_nil {a b : Int} (h : b ≤ a) : irng a b = [] := by
  unfold irng
  rw [show (b - a).toNat = 0 by omega]; rfl
theorem irng_cons {a b : Int} (h : a < b) : irng a b = a :: irng (a + 1) b := by
  unfold irng
  rw [show (b - a).toNat = (b - (a + 1)).toNat + 1 by omega, List.range_succ_eq_map]
  simp only [List.map_cons, List.map_map]
  congr 1
  · omega
  · apply List.map_congr_left
    intro k _
    show a + ((k + 1 : Nat) : Int) = a + 1 + (k : Nat)
    omega
theorem irng_mem {a b x : Int} (h : x ∈ irng a b) : a ≤ x ∧ x < b := by
  unfold irng at h
  obtain ⟨k, hk, rfl⟩ := List.mem_map.mp h
  have := List.mem_range.mp hk
  omega
theorem irng_len (a b : Int) : (irng a b).length = (b - a).toNat := by unfold irng; simp
theorem irng_skip (p : Int → Bool) {a a' b : Int} (h : a ≤ a') (hn : ∀ x, a ≤ x → x < a' → p x = false) : (irng a b).filter p = (irng a' b).filter p := by
  generalize hk : (a' - a).toNat = k
  induction k generalizing a with
  | zero => rw [show a = a' by omega]
  | succ k ih =>
    by_cases hb : a < b
    · rw [irng_cons hb, List.filter_cons_of_neg (by rw [hn a (Int.le_refl _) (by omega)]; exact Bool.false_ne_true)]
      exact ih (by omega) (fun x h1 h2 => hn x (by omega) h2) (by omega)
    · rw [irng_nil (by omega), irng_nil (by omega)]
end Pl
namespace Pl
open PySem PySem.Spec PyProof.Rows L2
/-! ### slices by written places, == of equal data -/
theorem cutD_from {α : Type} (xs : List α) (k : Nat) : cutD xs (some (k : Int)) none = xs.drop k := by
  unfold cutD
  rw [HT.sIx_nat, HT.sIx_none]
  rcases Nat.le_total k xs.length with h | h
  · rw [Nat.min_eq_left h, ← List.length_drop, List.take_length]
  · rw [Nat.min_eq_right h, Nat.sub_self, List.take_zero, List.drop_of_length_le h]
theorem cutD_to {α : Type} (xs : List α) (k : Nat) : cutD xs none (some (k : Int)) = xs.take k := by
  unfold cutD
  rw [HT.sIx_nat, HT.sIx_none, List.drop_zero, Nat.sub_zero]
  rcases Nat.le_total k xs.length with h | h
  · rw [Nat.min_eq_left h]
  · rw [Nat.min_eq_right h, List.take_length, List.take_of_length_le h]
theorem cutD_mid {α : Type} (xs : List α) (j k : Nat) : cutD xs (some (j : Int)) (some (k : Int)) = (xs.drop j).take (k - j) := by
  unfold cutD
  rw [HT.sIx_nat, HT.sIx_nat]
  rcases Nat.le_total j xs.length with h | h
  · rw [Nat.min_eq_left h]
    rcases Nat.le_total k xs.length with h2 | h2
    · rw [Nat.min_eq_left h2]
    · rw [Nat.min_eq_right h2, ← List.length_drop, List.take_length, List.take_of_length_le (by rw [List.length_drop]; omega)]
  · rw [Nat.min_eq_right h, List.drop_of_length_le h, List.drop_of_length_le (Nat.le_refl _)]; simp
@[simp] theorem cutD_1n {α : Type} (xs : List α) : cutD xs (some 1) none = xs.drop 1 := cutD_from xs 1
@[simp] theorem cutD_2n {α : Type} (xs : List α) : cutD xs (some 2) none = xs.drop 2 := cutD_from xs 2
@[simp] theorem cutD_3n {α : Type} (xs : List α) : cutD xs (some 3) none = xs.drop 3 := cutD_from xs 3
@[simp] theorem cutD_4n {α : Type} (xs : List α) : cutD xs (some 4) none = xs.drop 4 := cutD_from xs 4
@[simp] theorem cutD_6n {α : Type} (xs : List α) : cutD xs (some 6) none = xs.drop 6 := cutD_from xs 6
@[simp] theorem cutD_n2 {α : Type} (xs : List α) : cutD xs none (some 2) = xs.take 2 := cutD_to xs 2
@[simp] theorem cutD_5n {α : Type} (xs : List α) : cutD xs (some 5) none = xs.drop 5 := cutD_from xs 5
@[simp] theorem cutD_8n {α : Type} (xs : List α) : cutD xs (some 8) none = xs.drop 8 := cutD_from xs 8
@[simp] theorem cutD_nn {α : Type} (xs : List α) : cutD xs none none = xs := by unfold cutD; rw [HT.sIx_none, HT.sIx_none]; simp
theorem eqG_same (neg : Bool) {a b : SV} {x : D} (ha : datS a = .ok x) (hb : datS b = .ok x) (h : shpD x = true) : eqG neg a b = .ok (.d (.bool (!neg))) := by
  unfold eqG
  rw [ha, hb]
  simp only [ok_bind, h, and_self, if_true]
  rw [PySem.SeqAt.eqv_refl_plain x (shpD_of h).1]
  cases neg <;> rfl
theorem eqS_same (neg : Bool) {x : D} (h : shpD x = true) : eqS neg (.d x) (.d x) = .ok (.d (.bool (!neg))) := by
  cases x with
  | none => cases neg <;> rfl
  | bool b => simp
  | int i => simp
  | str s => simp
  | list xs => exact eqG_same neg rfl rfl h
  | tuple xs => exact eqG_same neg rfl rfl h
  | dict xs => exact eqG_same neg rfl rfl h
theorem eqS_sameL (neg : Bool) {xs : List D} (h : shpD (.list xs) = true) : eqS neg (.ol xs) (.ol xs) = .ok (.d (.bool (!neg))) := eqG_same neg rfl rfl h
theorem ints_get {ns : List Int} {i : Nat} {x : D} (h : (ns.map PyData.int)[i]? = some x) : ∃ n, ns[i]? = some n ∧ x = .int n := by
  rw [List.getElem?_map] at h
  cases e : ns[i]? with
  | none => rw [e] at h; cases h
  | some n => rw [e] at h; cases h; exact ⟨n, rfl, rfl⟩
theorem two_of {ds : List Int} (h : ds.length = 2) : ∃ a b, ds = [a, b] := by
  match ds, h with
  | [a, b], _ => exact ⟨a, b, rfl⟩
end Pl
namespace Pl
open PySem PySem.Spec PyProof.Rows L2
/-! ### data of bounded depth and size -/
def wfD : Nat → D → Bool
  | 0, _ => false
  | _ + 1, .none => true
  | _ + 1, .bool _ => true
  | _ + 1, .int _ => true
  | _ + 1, .str _ => true
  | n + 1, .list xs => decide (xs.length < 1000000) && xs.all (wfD n)
  | n + 1, .tuple xs => decide (xs.length < 1000000) && xs.all (wfD n)
  | _ + 1, .dict _ => false
theorem wfD_up : ∀ {n m : Nat} {x : D}, n ≤ m → wfD n x = true → wfD m x = true
  | 0, _, _, _, h => by cases h
  | n + 1, 0, _, hn, _ => by omega
  | n + 1, m + 1, x, hn, h => by
    cases x with
    | list xs =>
      simp only [wfD, Bool.and_eq_true, List.all_eq_true] at h ⊢
      exact ⟨h.1, fun y hy => wfD_up (by omega) (h.2 y hy)⟩
    | tuple xs =>
      simp only [wfD, Bool.and_eq_true, List.all_eq_true] at h ⊢
      exact ⟨h.1, fun y hy => wfD_up (by omega) (h.2 y hy)⟩
    | dict xs => cases h
    | _ => rfl
/-! ### sorted ints -/
theorem alike_ints : ∀ ns : List Int, allAlike (ns.map PyData.int) = true := by
  intro ns
  unfold allAlike
  simp [List.all_eq_true, PySem.W.alike]
theorem sortable_ints (ns : List Int) : sortable (ns.map PyData.int) = true := by
  unfold sortable
  have : (ns.map PyData.int).all noTup = true := by simp [List.all_eq_true, noTup]
  rw [this, Bool.or_true]
def isort (ns : List Int) : List Int := ns.mergeSort fun a b => decide (a ≤ b)
theorem isort_perm (ns : List Int) : (isort ns).Perm ns := List.mergeSort_perm ns _
theorem isort_sorted (ns : List Int) : (isort ns).Pairwise (· ≤ ·) := by
  have h := List.pairwise_mergeSort (le := fun a b : Int => decide (a ≤ b)) (fun a b c h1 h2 => by simp at *; omega) (fun a b => by simp; omega) ns
  exact h.imp fun h => by simpa using h
theorem sortD_ints (ns : List Int) : sortD (ns.map PyData.int) = (isort ns).map PyData.int := by
  unfold sortD isort
  refine (List.map_mergeSort (f := PyData.int) (s := PySem.W.dataLe false id) (fun a _ b _ => ?_)).symm
  rw [PySem.W.dataLe_eq]
  show decide (a ≤ b) = !PySem.W.dataLt (.int b) (.int a)
  rw [PySem.W.dataLt_int, Bool.eq_iff_iff]
  simp
theorem sortedS_ints (ns : List Int) (h : ns.length < 1000000) : sortedS [.ol (ns.map PyData.int)] = .ok (.ol ((isort ns).map PyData.int)) := by
  have hz := line16
  unfold sortedS
  have hd : ((ns.map PyData.int).all fun d => decide (d.depth ≤ 60)) = true := by simp [List.all_eq_true, PyData.depth]
  simp only [datL]
  rw [if_pos ⟨alike_ints ns, sortable_ints ns, hd, by rw [List.length_map]; omega⟩, sortD_ints]
/-- the first one that passes -/
theorem find_asc (c : Int → Bool) (hi : Int) : ∀ (k : Nat) (lo : Int) (up : List Int), (hi - lo).toNat = k → up.Pairwise (· < ·) → (∀ x ∈ up, lo ≤ x ∧ x < hi) → (irng lo hi).find? (fun x => decide (x ∈ up) && c x) = up.find? c
  | 0, lo, up, hk, hs, hb => by
    rw [irng_nil (by omega)]
    cases up with
    | nil => rfl
    | cons x r => have := hb x List.mem_cons_self; omega
  | k + 1, lo, up, hk, hs, hb => by
    rw [irng_cons (by omega)]
    by_cases hm : lo ∈ up
    · cases up with
      | nil => cases hm
      | cons x r =>
        have hx : x = lo := by
          rcases List.mem_cons.mp hm with e | e
          · exact e.symm
          · have h1 := (List.pairwise_cons.mp hs).1 lo e
            have h2 := (hb x List.mem_cons_self).1
            omega
        subst hx
        rw [List.find?_cons, List.find?_cons]
        simp only [List.mem_cons_self, decide_true, Bool.true_and]
        cases hc : c x with
        | true => rfl
        | false =>
          have ih := find_asc c hi k (x + 1) r (by omega) (List.pairwise_cons.mp hs).2 (fun y hy => ⟨by have := (List.pairwise_cons.mp hs).1 y hy; omega, (hb y (List.mem_cons_of_mem _ hy)).2⟩)
          rw [← ih]
          have e : ∀ y ∈ irng (x + 1) hi, (decide (y ∈ x :: r) && c y) = (decide (y ∈ r) && c y) := fun y hy => by
            have := (irng_mem hy).1
            have hne : y ≠ x := by omega
            simp [hne]
          clear ih hs hb hm hk hc
          show List.find? _ (irng (x + 1) hi) = _
          revert e
          generalize irng (x + 1) hi = L
          intro e
          induction L with
          | nil => rfl
          | cons a L ih =>
            rw [List.find?_cons, List.find?_cons, e a List.mem_cons_self]
            rw [ih fun y hy => e y (List.mem_cons_of_mem _ hy)]
    · rw [List.find?_cons]
      simp only [hm, decide_false, Bool.false_and]
      exact find_asc c hi k (lo + 1) up (by omega) hs fun y hy => ⟨by
        have h1 := (hb y hy).1
        have h2 : y ≠ lo := fun e => hm (e ▸ hy)
        omega, (hb y hy).2⟩
theorem asc_of {ns : List Int} (h : ns.Pairwise (· ≤ ·)) (hn : ns.Nodup) : ns.Pairwise (· < ·) := by
  induction ns with
  | nil => exact .nil
  | cons x r ih =>
    obtain ⟨h1, h2⟩ := List.pairwise_cons.mp h
    obtain ⟨n1, n2⟩ := List.nodup_cons.mp hn
    exact List.pairwise_cons.mpr ⟨fun y hy => by have := h1 y hy; have : x ≠ y := fun e => n1 (e ▸ hy); omega, ih h2 n2⟩
theorem nodup_asc {ns : List Int} (h : ns.Pairwise (· < ·)) : ns.Nodup := h.imp fun h e => by omega
theorem irng_asc (a b : Int) : (irng a b).Pairwise (· < ·) := by
  generalize hk : (b - a).toNat = k
  induction k generalizing a with
  | zero => rw [irng_nil (by omega)]; exact .nil
  | succ k ih =>
    rw [irng_cons (by omega)]
    exact List.pairwise_cons.mpr ⟨fun x hx => by have := (irng_mem hx).1; omega, ih (a + 1) (by omega)⟩
/-- x in a list of ints -/
theorem inS_ints (neg : Bool) (x : Int) (ns : List Int) : inS neg (.d (.int x)) (.ol (ns.map PyData.int)) = .ok (.d (.bool (if neg then !decide (x ∈ ns) else decide (x ∈ ns)))) := by
  have e : ((ns.map PyData.int).any fun z => PyData.eqv z (.int x)) = decide (x ∈ ns) := by
    induction ns with
    | nil => rfl
    | cons n r ih =>
      rw [List.map_cons, List.any_cons, ih, eqv_int]
      by_cases h : n = x
      · subst h; simp
      · have h2 : x ≠ n := fun e => h e.symm
        simp [h, h2]
  unfold inS
  simp only
  rw [if_pos ⟨rfl, shaped_ints ns⟩, e]
theorem inS_intsD (neg : Bool) (x : Int) (ns : List Int) : inS neg (.d (.int x)) (.d (.list (ns.map PyData.int))) = .ok (.d (.bool (if neg then !decide (x ∈ ns) else decide (x ∈ ns)))) := inS_ints neg x ns
theorem eqS_intsOD (neg : Bool) (ns ms : List Int) : eqS neg (.ol (ns.map PyData.int)) (.d (.list (ms.map PyData.int))) = .ok (.d (.bool (if neg then !decide (ns = ms) else decide (ns = ms)))) := eqS_ints neg ns ms
theorem eqS_intsDO (neg : Bool) (ns ms : List Int) : eqS neg (.d (.list (ns.map PyData.int))) (.ol (ms.map PyData.int)) = .ok (.d (.bool (if neg then !decide (ns = ms) else decide (ns = ms)))) := eqS_ints neg ns ms
theorem eqS_intsDD (neg : Bool) (ns ms : List Int) : eqS neg (.d (.list (ns.map PyData.int))) (.d (.list (ms.map PyData.int))) = .ok (.d (.bool (if neg then !decide (ns = ms) else decide (ns = ms)))) := eqS_ints neg ns ms
/-! ### bodies, piece by piece -/
theorem seqS_assoc (f g h : En → R Fl) : seqS (seqS f g) h = seqS f (seqS g h) := by
  funext ρ
  simp only [seqS_ap]
  cases f ρ with
  | ok z => cases z <;> rfl
  | ex => rfl
  | bad => rfl
theorem seq_nx {f g : En → R Fl} {ρ ρ1 : En} {z : R Fl} (h : f ρ = .ok (.nx ρ1)) (h2 : g ρ1 = z) : seqS f g ρ = z := by
  rw [seqS_ap, h]; exact h2
theorem seq_rt {f g : En → R Fl} {ρ : En} {r : SV} (h : f ρ = .ok (.rt r)) : seqS f g ρ = .ok (.rt r) := by
  rw [seqS_ap, h]; rfl
theorem asg_nx {i : Nat} {fa : En → R SV} {ρ ρ1 : En} {r : SV} (h : fa ρ = .ok r) (h2 : ρ.set i (some r) = ρ1) (hp : r.npin = true := by rfl) : asgS i fa ρ = .ok (.nx ρ1) := by
  rw [asgS_ap, h, ← h2, ok_bind, if_pos hp]
theorem kill_nx {is : List Nat} {f : En → R Fl} {ρ ρ1 ρ2 : En} (h : f ρ = .ok (.nx ρ1)) (h2 : killE is ρ1 = ρ2) : kill is f ρ = .ok (.nx ρ2) := by
  rw [kill_ap, h, ← h2]; rfl
end Pl
namespace Pl
open PySem PySem.Spec PyProof.Rows L2
/-! ### strings, by their lengths -/
theorem len_app (a b : Str) : (a ++ b).length = a.length + b.length := by
  show (a.cps ++ b.cps).size = _
  rw [Array.size_append]; rfl
theorem cutS_len (z : Str) (lo hi : Option Int) : (cutS z lo hi).length ≤ z.length := by
  show ((z.cps.toList.drop _).take _).toArray.size ≤ z.cps.size
  rw [List.size_toArray, List.length_take, List.length_drop, Array.length_toList]
  omega
theorem slS_s (z : Str) (lo hi : Option Int) (h : z.length ≤ 1000) : slS (.d (.str z)) lo hi = .ok (.d (.str (cutS z lo hi))) := by
  have hz := line16
  show (if z.length ≤ sizeLine then _ else _) = _
  rw [if_pos (by omega)]
theorem ixS_s (z : Str) (i : Int) (h : z.length ≤ 1000) (h0 : 0 ≤ i) (h1 : i < z.length) : ∃ c : Str, ixS (.d (.str z)) (.d (.int i)) = .ok (.d (.str c)) ∧ c.length = 1 := by
  have hz := line16
  have e := atI_of (xs := z.cps.toList) h0 (by show i < (z.cps.toList.length : Nat); rw [show z.cps.toList.length = z.length from rfl]; exact h1)
  refine ⟨⟨#[z.cps.toList[i.toNat]'(by have : z.cps.toList.length = z.length := rfl; omega)]⟩, ?_, rfl⟩
  show (if z.length ≤ sizeLine then _ else _) = _
  rw [if_pos (by omega), e]
theorem addS_s (a b : Str) (h : a.length ≤ 1000) (h2 : b.length ≤ 1000) : addS (.d (.str a)) (.d (.str b)) = .ok (.d (.str (a ++ b))) := by
  have hz := line16
  show (if a.length + b.length ≤ sizeLine then _ else _) = _
  rw [if_pos (by omega)]
/-! ### comprehensions and loops that build -/
theorem lcF_ex {α : Type} (g : α → D) (Q : α → Prop) {k : D → En → R En} {e : En → R SV} {ρ0 : En} : ∀ (xs : List D), (∀ x, x ∈ xs → ∃ ρ1 r y, k x ρ0 = .ok ρ1 ∧ e ρ1 = .ok r ∧ datS r = .ok (g y) ∧ Q y) → ∃ ys : List α, lcF k yesT e ρ0 xs = .ok (ys.map g) ∧ ys.length = xs.length ∧ ∀ y ∈ ys, Q y
  | [], _ => ⟨[], rfl, rfl, fun _ h => nomatch h⟩
  | x :: xs, h => by
    obtain ⟨ρ1, r, y, h1, h2, h3, h4⟩ := h x List.mem_cons_self
    obtain ⟨ys, e1, e2, e3⟩ := lcF_ex g Q (k := k) (e := e) (ρ0 := ρ0) xs fun x hx => h x (List.mem_cons_of_mem _ hx)
    refine ⟨y :: ys, ?_, by simp [e2], fun z hz => ?_⟩
    · unfold lcF
      simp [h1, h2, h3, e1]
    · rcases List.mem_cons.mp hz with rfl | hz
      · exact h4
      · exact e3 z hz
theorem rng_mem {a b : Int} {x : D} (h : x ∈ rng a b) : ∃ i, x = .int i ∧ a ≤ i ∧ i < b := by
  rw [rng_irng] at h
  obtain ⟨i, hi, rfl⟩ := List.mem_map.mp h
  exact ⟨i, rfl, irng_mem hi⟩
/-- an index of written ints -/
theorem atI_ints (ns : List Int) (i : Int) (h0 : 0 ≤ i) (h1 : i < ns.length) : ∃ n, n ∈ ns ∧ atI (ns.map PyData.int) i = some (.int n) := by
  rw [atI_of h0 (by simpa using h1)]
  exact ⟨ns[i.toNat]'(by omega), List.getElem_mem _, by simp⟩
theorem atI_map {α : Type} (g : α → D) (ns : List α) (i : Int) (h0 : 0 ≤ i) (h1 : i < ns.length) : ∃ n, n ∈ ns ∧ atI (ns.map g) i = some (g n) := by
  rw [atI_of h0 (by simpa using h1)]
  exact ⟨ns[i.toNat]'(by omega), List.getElem_mem _, by simp⟩
theorem atI_map' {α : Type} (g : α → D) (ns : List α) (i : Int) (n : α) (h0 : 0 ≤ i) (h : ns[i.toNat]? = some n) : atI (ns.map g) i = some (g n) := by
  have h1 : i.toNat < ns.length := by
    rcases Nat.lt_or_ge i.toNat ns.length with q | q
    · exact q
    · rw [List.getElem?_eq_none q] at h; cases h
  rw [atI_of h0 (by simp; omega)]
  rw [List.getElem?_eq_getElem h1] at h
  injection h with h
  simp [h]
theorem imodN (a b : Int) (h : 0 < b) : 0 ≤ a % b ∧ a % b < b := ⟨Int.emod_nonneg _ (by omega), Int.emod_lt_of_pos _ h⟩
theorem bls_map (bs : List Bool) : bls (bs.map PyData.bool) = some bs := by
  induction bs with
  | nil => rfl
  | cons b r ih => show (bls (r.map PyData.bool)).map _ = _; rw [ih]; rfl
theorem anyS_ol (bs : List Bool) : anyS [.ol (bs.map PyData.bool)] = .ok (.d (.bool (bs.any id))) := by
  show (match bls (bs.map PyData.bool) with | some bs => R.ok (SV.d (.bool (bs.any id))) | none => .bad) = _
  rw [bls_map]
theorem allS_ol (bs : List Bool) : allS [.ol (bs.map PyData.bool)] = .ok (.d (.bool (bs.all id))) := by
  show (match bls (bs.map PyData.bool) with | some bs => R.ok (SV.d (.bool (bs.all id))) | none => .bad) = _
  rw [bls_map]
theorem runB_rt {n m : Nat} {b : En → R Fl} {ds : List D} {r : SV} (h : b (startE m ds) = .ok (.rt r)) (hn : ds.length = n) : runB n m b ds = .ok r := by
  unfold runB
  rw [if_pos hn, h]; rfl
theorem runB_nx {n m : Nat} {b : En → R Fl} {ds : List D} {ρ : En} (h : b (startE m ds) = .ok (.nx ρ)) (hn : ds.length = n) : runB n m b ds = .ok (.d .none) := by
  unfold runB
  rw [if_pos hn, h]; rfl
theorem forS_tup {fa : En → R SV} {k : D → En → R En} {b : En → R Fl} {ρ : En} {xs : List D} {z : R Fl} (h : fa ρ = .ok (.d (.tuple xs))) (h2 : forF k b xs ρ = z) : forS (seqD fa) k b ρ = z := by
  rw [forS_ap, seqD_ap, h]; exact h2
theorem forS_lst {fa : En → R SV} {k : D → En → R En} {b : En → R Fl} {ρ : En} {xs : List D} {z : R Fl} (h : fa ρ = .ok (.d (.list xs))) (h2 : forF k b xs ρ = z) : forS (seqD fa) k b ρ = z := by
  rw [forS_ap, seqD_ap, h]; exact h2
theorem forS_ol {fa : En → R SV} {k : D → En → R En} {b : En → R Fl} {ρ : En} {xs : List D} {z : R Fl} (h : fa ρ = .ok (.ol xs)) (h2 : forF k b xs ρ = z) : forS (seqD fa) k b ρ = z := by
  rw [forS_ap, seqD_ap, h]; exact h2
theorem forS_rng1 {fa : En → R SV} {k : D → En → R En} {b : En → R Fl} {ρ : En} {j : Int} {z : R Fl} (h : fa ρ = .ok (.d (.int j))) (hj : okR j = true) (h2 : forF k b (rng 0 j) ρ = z) : forS (rngD1 (conB fa nilB)) k b ρ = z := by
  rw [forS_ap, rngD1_ap, conB_ap, h]
  simp only [nilB_ap, ok_bind, hj, if_true]; exact h2
theorem forS_rng2 {fa fb : En → R SV} {k : D → En → R En} {b : En → R Fl} {ρ : En} {i j : Int} {z : R Fl} (h : fa ρ = .ok (.d (.int i))) (h' : fb ρ = .ok (.d (.int j))) (hi : okR i = true) (hj : okR j = true) (h2 : forF k b (rng i j) ρ = z) : forS (rngD2 (conB fa (conB fb nilB))) k b ρ = z := by
  rw [forS_ap, rngD2_ap, conB_ap, h, ok_bind, conB_ap, h']
  simp only [nilB_ap, ok_bind, hi, hj, and_self, if_true]; exact h2
theorem eqS_lists (neg : Bool) {a b : SV} {xs ys : List D} (ha : datS a = .ok (.list xs)) (hb : datS b = .ok (.list ys)) : eqS neg a b = eqG neg a b := by
  cases a with
  | d x => cases ha; cases b <;> rfl
  | ol x => cases b <;> rfl
  | od x => cases ha
  | pin x => cases ha
  | exn n as => cases ha
  | pd kvs => cases ha
/-- a computed list is the same as itself -/
theorem eqS_selfL (neg : Bool) {a b : SV} {xs : List D} (ha : datS a = .ok (.list xs)) (hb : datS b = .ok (.list xs)) (h : shpD (.list xs) = true) : eqS neg a b = .ok (.d (.bool (!neg))) := by
  rw [eqS_lists neg ha hb, eqG_same neg ha hb h]
end Pl
namespace Pl
open PySem PySem.Spec PyProof.Rows L2
/-! ### labels and matchers -/
abbrev Lab := List (Str × Str)
def encP (p : Str × Str) : D := .tuple [.str p.1, .str p.2]
def encB (l : Lab) : D := .tuple (l.map encP)
structure Mat where
  nm : Str
  vs : List Str
  inn : Bool
structure Mat.Ok (m : Mat) : Prop where
  vs : m.vs.length ≤ 2
def encMt (m : Mat) : D := .tuple [.str m.nm, .tuple (m.vs.map PyData.str), .bool m.inn]
def valL (l : Lab) (n : Str) : Str := match l.find? fun p => decide (p.1 = n) with
  | some p => p.2
  | none => ""
def matM (m : Mat) (l : Lab) : Bool := decide (decide (valL l m.nm ∈ m.vs) = m.inn)
theorem inS_strs (neg : Bool) (x : Str) (ns : List Str) : inS neg (.d (.str x)) (.d (.tuple (ns.map PyData.str))) = .ok (.d (.bool (if neg then !decide (x ∈ ns) else decide (x ∈ ns)))) := by
  have e : ((ns.map PyData.str).any fun z => PyData.eqv z (.str x)) = decide (x ∈ ns) := by
    induction ns with
    | nil => rfl
    | cons n r ih =>
      rw [List.map_cons, List.any_cons, ih]
      have : PyData.eqv (.str n) (.str x) = decide (n = x) := by simp [PyData.eqv, Bool.beq_eq_decide_eq]
      rw [this]
      by_cases h : n = x
      · subst h; simp
      · have h2 : x ≠ n := fun e => h e.symm
        simp [h, h2]
  have f : (ns.map PyData.str).all flat = true := by
    rw [List.all_eq_true]
    intro d hd
    obtain ⟨s, _, rfl⟩ := List.mem_map.mp hd
    rfl
  unfold inS
  simp only
  rw [if_pos ⟨rfl, f⟩, e]
abbrev eV (l : Lab) (n : Str) (x : Option SV) : En := [some (.d (encB l)), some (.d (.str n)), x]
theorem val_loop {b : En → R Fl} (l : Lab) (n : Str) (hb : b = (kill [2] (ifS (asT (bin (eqS false) (bin ixS (peek 2) (kon (.int 0))) (peek 1))) (retS (bin ixS (peek 2) (kon (.int 1)))) skip))) : ∀ u : Lab, forF (setD 2) b (u.map encP) (eV l n none) = (match u.find? fun p => decide (p.1 = n) with | some p => .ok (.rt (.d (.str p.2))) | none => .ok (.nx (eV l n none)))
  | [] => rfl
  | p :: u => by
    have ih := val_loop l n hb u
    rw [List.map_cons, forF, List.find?_cons]
    have i0 : ixS (.d (encP p)) (.d (.int 0)) = .ok (.d (.str p.1)) := rfl
    have i1 : ixS (.d (encP p)) (.d (.int 1)) = .ok (.d (.str p.2)) := rfl
    by_cases c : p.1 = n
    · have e2 : b [some (.d (encB l)), some (.d (.str n)), some (.d (encP p))] = .ok (.rt (.d (.str p.2))) := by
        subst hb
        simp [i0, i1, c]
      simp only [setD_ap, List.set_cons_succ, List.set_cons_zero, e2, ok_bind, decide_eq_true c]
    · have e2 : b [some (.d (encB l)), some (.d (.str n)), some (.d (encP p))] = .ok (.nx (eV l n none)) := by
        subst hb
        simp [i0, i1, c]
      simp only [setD_ap, List.set_cons_succ, List.set_cons_zero, e2, ok_bind, decide_eq_false c]
      exact ih
theorem val_body {b : En → R Fl} {c : En → R Fl} (l : Lab) (n : Str) (hb : b = (kill [2] (ifS (asT (bin (eqS false) (bin ixS (peek 2) (kon (.int 0))) (peek 1))) (retS (bin ixS (peek 2) (kon (.int 1)))) skip))) (hc : c = (seqS (forS (seqD (getV 0)) (setD 2) b) (retS (kon (.str ""))))) : runB 2 3 c [encB l, .str n] = .ok (.d (.str (valL l n))) := by
  have h := val_loop l n hb l
  have hb : ∀ ρ, ρ = eV l n none → c ρ = .ok (.rt (.d (.str (valL l n)))) := by
    rintro _ rfl
    rw [hc]
    have f := forS_tup (fa := getV 0) (k := setD 2) (b := b) (ρ := eV l n none) rfl h
    unfold valL
    cases hq : l.find? fun p => decide (p.1 = n) with
    | some p => rw [hq] at f; exact seq_rt f
    | none => rw [hq] at f; exact seq_nx f rfl
  exact runB_rt (hb _ rfl) rfl
theorem plain_strs : ∀ ns : List Str, PyData.plainAll (ns.map PyData.str) = true
  | [] => rfl
  | n :: r => by
    show (PyData.plain (.str n) && PyData.plainAll (r.map PyData.str)) = true
    rw [plain_strs r]; rfl
theorem depth_strs : ∀ ns : List Str, PyData.depthAll (ns.map PyData.str) = 0
  | [] => rfl
  | n :: r => by
    show max (PyData.depth (.str n)) (PyData.depthAll (r.map PyData.str)) = 0
    rw [depth_strs r]; rfl
theorem shaped_strs (ns : List Str) : shpD (.list (ns.map PyData.str)) = true := by
  refine shp_of (plain_strs ns) ?_
  show PyData.depthAll (ns.map PyData.str) + 1 ≤ 60
  rw [depth_strs]; omega
theorem inS_strsO (neg : Bool) (x : Str) (ns : List Str) : inS neg (.d (.str x)) (.ol (ns.map PyData.str)) = .ok (.d (.bool (if neg then !decide (x ∈ ns) else decide (x ∈ ns)))) := by
  have e : ((ns.map PyData.str).any fun z => PyData.eqv z (.str x)) = decide (x ∈ ns) := by
    induction ns with
    | nil => rfl
    | cons n r ih =>
      rw [List.map_cons, List.any_cons, ih]
      have : PyData.eqv (.str n) (.str x) = decide (n = x) := by simp [PyData.eqv, Bool.beq_eq_decide_eq]
      rw [this]
      by_cases h : n = x
      · subst h; simp
      · have h2 : x ≠ n := fun e => h e.symm
        simp [h, h2]
  unfold inS
  simp only
  rw [if_pos ⟨rfl, shaped_strs ns⟩, e]
theorem plain_labs : ∀ ns : Lab, PyData.plainAll (ns.map encP) = true
  | [] => rfl
  | n :: r => by
    show (PyData.plain (encP n) && PyData.plainAll (r.map encP)) = true
    rw [plain_labs r]; rfl
theorem depth_labs : ∀ ns : Lab, PyData.depthAll (ns.map encP) ≤ 1
  | [] => Nat.zero_le _
  | n :: r => by
    show max (PyData.depth (encP n)) (PyData.depthAll (r.map encP)) ≤ 1
    have := depth_labs r
    have h : PyData.depth (encP n) = 1 := rfl
    rw [h]; omega
theorem shaped_lab (l : Lab) : shpD (encB l) = true := by
  refine shp_of (plain_labs l) ?_
  show PyData.depthAll (l.map encP) + 1 ≤ 60
  have := depth_labs l
  omega
theorem eqS_lab (neg : Bool) (l m : Lab) : eqS neg (.d (encB l)) (.d (encB m)) = .ok (.d (.bool (if neg then !PyData.eqv (encB l) (encB m) else PyData.eqv (encB l) (encB m)))) := by
  show eqG neg _ _ = _
  unfold eqG
  simp [shaped_lab]
theorem sorted_pairs0 (ps : Lab) (h : ps.length < 1000000) : ∃ qs : Lab, Pl.sortedS [.ol (ps.map encP)] = .ok (.ol (qs.map encP)) ∧ qs.Perm ps ∧ qs = ps.mergeSort fun a b => PySem.W.dataLe false id (encP a) (encP b) := by
  have hz := line16
  refine ⟨ps.mergeSort fun a b => PySem.W.dataLe false id (encP a) (encP b), ?_, List.mergeSort_perm ps _, rfl⟩
  unfold Pl.sortedS
  have h1 : allAlike (ps.map encP) = true := by
    unfold allAlike
    rw [List.all_eq_true]
    intro a ha
    rw [List.all_eq_true]
    intro b hb
    obtain ⟨p, _, rfl⟩ := List.mem_map.mp ha
    obtain ⟨q, _, rfl⟩ := List.mem_map.mp hb
    rfl
  have h2 : sortable (ps.map encP) = true := by
    unfold sortable
    rw [Bool.or_eq_true]
    left
    rw [List.all_eq_true]
    intro a ha
    obtain ⟨p, _, rfl⟩ := List.mem_map.mp ha
    rfl
  have h3 : ((ps.map encP).all fun d => decide (d.depth ≤ 60)) = true := by
    rw [List.all_eq_true]
    intro a ha
    obtain ⟨p, _, rfl⟩ := List.mem_map.mp ha
    rfl
  simp only [datL]
  rw [if_pos ⟨h1, h2, h3, by rw [List.length_map]; omega⟩]
  unfold sortD
  congr 2
  exact (List.map_mergeSort (f := encP) (s := PySem.W.dataLe false id) (fun a _ b _ => rfl)).symm
theorem sorted_pairs (ps : Lab) (h : ps.length < 1000000) : ∃ qs : Lab, Pl.sortedS [.ol (ps.map encP)] = .ok (.ol (qs.map encP)) ∧ qs.Perm ps := let ⟨qs, a, b, _⟩ := sorted_pairs0 ps h; ⟨qs, a, b⟩
/-! ### labels in order -/
theorem str_eq {a b : Str} (h : a.cps.toList = b.cps.toList) : a = b := by
  cases a; cases b; congr 1; exact Array.toList_inj.mp h
theorem str_ne {a b : Str} (h : a ≠ b) : a.cps.toList ≠ b.cps.toList := fun e => h (str_eq e)
def ltS' (a b : Str) : Prop := a.cps.toList < b.cps.toList
theorem ltS'_irr (a : Str) : ¬ ltS' a a := List.lt_irrefl _
theorem ltS'_asy {a b : Str} (h : ltS' a b) : ¬ ltS' b a := List.lt_asymm h
theorem ltS'_ne {a b : Str} (h : ltS' a b) : a ≠ b := fun e => by subst e; exact ltS'_irr _ h
theorem ltS'_tri {a b : Str} (h : ¬ ltS' a b) (h2 : a ≠ b) : ltS' b a := Std.lt_of_le_of_ne (List.not_lt.mp h) fun e => h2 (str_eq e.symm)
/-- labels: strictly ascending by names -/
def Asc (l : Lab) : Prop := l.Pairwise fun p q => ltS' p.1 q.1
theorem le_pair {p q : Str × Str} (h : p.1 ≠ q.1) (hl : PySem.W.dataLe false id (encP p) (encP q) = true) : ltS' p.1 q.1 := by
  have e : PySem.W.dataLe false id (encP p) (encP q) = !PySem.W.dataLt (encP q) (encP p) := rfl
  rw [e] at hl
  unfold encP at hl
  rw [PySem.W.dataLt_pair (by rfl) (by rfl)] at hl
  have e2 : PyData.eqv (.str q.1) (.str p.1) = false := by
    simp [PyData.eqv]; exact fun z => h z.symm
  rw [e2] at hl
  have hn : ¬ (q.1.cps.toList < p.1.cps.toList) := fun z => by
    rw [if_neg (by simp), PySem.W.dataLt_str, decide_eq_true z] at hl; cases hl
  exact Std.lt_of_le_of_ne (List.not_lt.mp hn) (str_ne h)
theorem dle_total (f : D → D) : ∀ a b, (PySem.W.dataLe false f a b || PySem.W.dataLe false f b a) = true := fun a b => by
  rcases (PySem.W.sortLe_total (PyProof.Rows.listOrd PyProof.Rows.itemOrd) false fun d => PySem.W.keyToks (f d)).total a b with h | h
  · rw [Bool.or_eq_true]; exact .inl h
  · rw [Bool.or_eq_true]; exact .inr h
theorem dle_trans (f : D → D) : ∀ a b c, PySem.W.dataLe false f a b = true → PySem.W.dataLe false f b c = true → PySem.W.dataLe false f a c = true :=
  (PySem.W.sortLe_total (PyProof.Rows.listOrd PyProof.Rows.itemOrd) false fun d => PySem.W.keyToks (f d)).trans
theorem asc_sorted (ps : Lab) (nd : (ps.map Prod.fst).Nodup) : Asc (ps.mergeSort fun a b => PySem.W.dataLe false id (encP a) (encP b)) := by
  have h1 := List.pairwise_mergeSort (le := fun a b => PySem.W.dataLe false id (encP a) (encP b)) (fun a b c => dle_trans id _ _ _) (fun a b => dle_total id _ _) ps
  have hp := List.mergeSort_perm ps fun a b => PySem.W.dataLe false id (encP a) (encP b)
  have h2 : ((ps.mergeSort fun a b => PySem.W.dataLe false id (encP a) (encP b)).map Prod.fst).Nodup := (hp.map Prod.fst).nodup_iff.mpr nd
  have h3 : (ps.mergeSort fun a b => PySem.W.dataLe false id (encP a) (encP b)).Pairwise fun p q => p.1 ≠ q.1 := List.pairwise_map.mp h2
  exact (List.Pairwise.and h1 h3).imp fun ⟨a, b⟩ => le_pair b a
theorem sorted_asc (ps : Lab) (h : ps.length < 1000000) (nd : (ps.map Prod.fst).Nodup) : ∃ qs : Lab, Pl.sortedS [.ol (ps.map encP)] = .ok (.ol (qs.map encP)) ∧ qs.Perm ps ∧ Asc qs := by
  obtain ⟨qs, h1, h2, h3⟩ := sorted_pairs0 ps h
  exact ⟨qs, h1, h2, by rw [h3]; exact asc_sorted ps nd⟩
theorem Asc.mem_val {l : Lab} (h : Asc l) {p : Str × Str} (hp : p ∈ l) : valL l p.1 = p.2 := by
  induction l with
  | nil => cases hp
  | cons q r ih =>
    unfold valL
    rw [List.find?_cons]
    rcases List.mem_cons.mp hp with rfl | hp
    · simp
    · have := List.rel_of_pairwise_cons h hp
      have hne : ¬ q.1 = p.1 := ltS'_ne this
      simp only [hne, decide_false]
      exact ih (List.Pairwise.of_cons h) hp
theorem val_mem {l : Lab} {n v : Str} (h : valL l n = v) (hv : v ≠ "") : (n, v) ∈ l := by
  unfold valL at h
  cases e : l.find? (fun p => decide (p.1 = n)) with
  | none => rw [e] at h; exact absurd h.symm hv
  | some p =>
    rw [e] at h
    have h1 := List.mem_of_find?_eq_some e
    have h2 := List.find?_some e
    simp at h2 h
    subst h2; subst h; exact h1
theorem val_filter (l : Lab) (S : Str → Bool) (n : Str) (h : S n = true) : valL (l.filter fun p => S p.1) n = valL l n := by
  unfold valL
  rw [List.find?_filter]
  congr 1
  induction l with
  | nil => rfl
  | cons p r ih =>
    rw [List.find?_cons, List.find?_cons]
    by_cases c : p.1 = n
    · subst c; simp [h]
    · simp [c]; simpa using ih
/-- ascending labels with the same pairs are the same -/
theorem asc_ext {l m : Lab} (hl : Asc l) (hm : Asc m) (h : ∀ p, p ∈ l ↔ p ∈ m) : l = m := by
  induction l generalizing m with
  | nil =>
    cases m with
    | nil => rfl
    | cons q r => exact absurd ((h q).mpr List.mem_cons_self) (by simp)
  | cons p l ih =>
    cases m with
    | nil => exact absurd ((h p).mp List.mem_cons_self) (by simp)
    | cons q m =>
      have e : p = q := by
        rcases List.mem_cons.mp ((h p).mp List.mem_cons_self) with e | e
        · exact e
        · rcases List.mem_cons.mp ((h q).mpr List.mem_cons_self) with e2 | e2
          · exact e2.symm
          · exact absurd (List.rel_of_pairwise_cons hl e2) (ltS'_asy (List.rel_of_pairwise_cons hm e))
      subst e
      have hl1 : ∀ z ∈ l, z ≠ p := fun z hz e => by subst e; exact ltS'_irr _ (List.rel_of_pairwise_cons hl hz)
      have hm1 : ∀ z ∈ m, z ≠ p := fun z hz e => by subst e; exact ltS'_irr _ (List.rel_of_pairwise_cons hm hz)
      rw [ih (List.Pairwise.of_cons hl) (List.Pairwise.of_cons hm) fun z => ⟨fun hz => by
        rcases List.mem_cons.mp ((h z).mp (List.mem_cons_of_mem _ hz)) with e | e
        · exact absurd e (hl1 z hz)
        · exact e, fun hz => by
        rcases List.mem_cons.mp ((h z).mpr (List.mem_cons_of_mem _ hz)) with e | e
        · exact absurd e (hm1 z hz)
        · exact e⟩]
/-- two ascending labels agree on the names of S exactly if their parts by S are the same -/
theorem asc_part {l m : Lab} (hl : Asc l) (hm : Asc m) (vl : ∀ p ∈ l, p.2 ≠ "") (vm : ∀ p ∈ m, p.2 ≠ "") (S : Str → Bool) : (l.filter fun p => S p.1) = (m.filter fun p => S p.1) ↔ ∀ n, S n = true → valL l n = valL m n := by
  constructor
  · intro h n hn
    rw [← val_filter l S n hn, h, val_filter m S n hn]
  · intro h
    refine asc_ext (hl.filter _) (hm.filter _) fun p => ?_
    rw [List.mem_filter, List.mem_filter]
    constructor
    · rintro ⟨h1, h2⟩
      have := h _ h2
      rw [hl.mem_val h1] at this
      exact ⟨val_mem this.symm (vl _ h1), h2⟩
    · rintro ⟨h1, h2⟩
      have := h _ h2
      rw [hm.mem_val h1] at this
      exact ⟨val_mem this (vm _ h1), h2⟩
theorem eqvAll_labs : ∀ l m : Lab, PyData.eqvAll (l.map encP) (m.map encP) = decide (l = m)
  | [], [] => rfl
  | [], _ :: _ => by simp [PyData.eqvAll]
  | _ :: _, [] => by simp [PyData.eqvAll]
  | p :: l, q :: m => by
    show (PyData.eqv (encP p) (encP q) && PyData.eqvAll (l.map encP) (m.map encP)) = _
    rw [eqvAll_labs l m]
    have : PyData.eqv (encP p) (encP q) = decide (p = q) := by
      show (PyData.eqv (.str p.1) (.str q.1) && (PyData.eqv (.str p.2) (.str q.2) && true)) = _
      simp [PyData.eqv, Bool.beq_eq_decide_eq, Prod.ext_iff]
    rw [this]; simp
theorem eqv_lab (l m : Lab) : PyData.eqv (encB l) (encB m) = decide (l = m) := eqvAll_labs l m
theorem eqS_lab' (neg : Bool) (l m : Lab) : eqS neg (.d (encB l)) (.d (encB m)) = .ok (.d (.bool (if neg then !decide (l = m) else decide (l = m)))) := by
  rw [eqS_lab, eqv_lab]
end Pl
namespace Pl
open PySem PySem.Spec PyProof.Rows L2
/-! ### loops that may answer, by a plain search -/
theorem forF_some {α : Type} (g : α → D) (q : α → Option SV) {k : D → En → R En} {b : En → R Fl} {ρ0 : En} : ∀ us : List α, (∀ a ∈ us, ∃ ρ1, k (g a) ρ0 = .ok ρ1 ∧ b ρ1 = .ok (match q a with | some r => .rt r | none => .nx ρ0)) → forF k b (us.map g) ρ0 = .ok (match us.findSome? q with | some r => .rt r | none => .nx ρ0)
  | [], _ => rfl
  | a :: us, h => by
    obtain ⟨ρ1, h1, h2⟩ := h a List.mem_cons_self
    have ih := forF_some g q us fun x hx => h x (List.mem_cons_of_mem _ hx)
    rw [List.map_cons, forF, h1, List.findSome?_cons]
    simp only [h2]
    cases hq : q a with
    | some r => rfl
    | none => exact ih
theorem forF_any {α : Type} (g : α → D) (p : α → Bool) (r : SV) {k : D → En → R En} {b : En → R Fl} {ρ0 : En} (us : List α) (h : ∀ a ∈ us, ∃ ρ1, k (g a) ρ0 = .ok ρ1 ∧ b ρ1 = if p a = true then .ok (.rt r) else .ok (.nx ρ0)) : forF k b (us.map g) ρ0 = if us.any p = true then .ok (.rt r) else .ok (.nx ρ0) := by
  have q := forF_some g (fun a => if p a = true then some r else none) (k := k) (b := b) (ρ0 := ρ0) us fun a ha => by
    obtain ⟨ρ1, h1, h2⟩ := h a ha
    refine ⟨ρ1, h1, ?_⟩
    rw [h2]
    cases p a <;> rfl
  rw [q]
  clear q h
  induction us with
  | nil => rfl
  | cons a us ih =>
    rw [List.findSome?_cons, List.any_cons]
    cases p a with
    | true => rfl
    | false => simpa using ih
/-- a loop that leaves when an item fails -/
theorem forF_all {α : Type} (g : α → D) (p : α → Bool) (r : SV) {k : D → En → R En} {b : En → R Fl} {ρ0 : En} (us : List α) (h : ∀ a ∈ us, ∃ ρ1, k (g a) ρ0 = .ok ρ1 ∧ b ρ1 = if p a = true then .ok (.nx ρ0) else .ok (.rt r)) : forF k b (us.map g) ρ0 = if us.all p = true then .ok (.nx ρ0) else .ok (.rt r) := by
  have q := forF_any g (fun a => !p a) r (k := k) (b := b) (ρ0 := ρ0) us fun a ha => by
    obtain ⟨ρ1, h1, h2⟩ := h a ha
    refine ⟨ρ1, h1, ?_⟩
    rw [h2]
    cases p a <;> rfl
  rw [q]
  have : us.all p = !(us.any fun a => !p a) := by rw [List.all_eq_not_any_not]
  rw [this]
  cases us.any fun a => !p a <;> rfl
/-- a loop that goes on -/
theorem forF_go {α : Type} (g : α → D) {k : D → En → R En} {b : En → R Fl} {ρ0 : En} (us : List α) (h : ∀ a ∈ us, ∃ ρ1, k (g a) ρ0 = .ok ρ1 ∧ b ρ1 = .ok (.nx ρ0)) : forF k b (us.map g) ρ0 = .ok (.nx ρ0) := by
  have q := forF_all g (fun _ => true) (.d .none) (k := k) (b := b) (ρ0 := ρ0) us fun a ha => by
    obtain ⟨ρ1, h1, h2⟩ := h a ha
    exact ⟨ρ1, h1, by rw [h2]; rfl⟩
  rw [q, if_pos (by simp)]
theorem list_mem {α : Type} (g : α → D) {us : List α} {i : Nat} {x : D} (h : (us.map g)[i]? = some x) : ∃ a, us[i]? = some a ∧ a ∈ us ∧ x = g a := by
  rw [List.getElem?_map] at h
  cases e : us[i]? with
  | none => rw [e] at h; cases h
  | some a => rw [e] at h; cases h; exact ⟨a, rfl, List.mem_of_getElem? e, rfl⟩
/-! ### plain data of bounded depth -/
theorem plain_mats : ∀ ms : List Mat, PyData.plainAll (ms.map encMt) = true
  | [] => rfl
  | m :: r => by
    show (PyData.plain (encMt m) && PyData.plainAll (r.map encMt)) = true
    rw [plain_mats r, Bool.and_true]
    show (true && (PyData.plainAll (m.vs.map PyData.str) && (true && true))) = true
    rw [plain_strs]; rfl
theorem depth_mats : ∀ ms : List Mat, PyData.depthAll (ms.map encMt) ≤ 2
  | [] => Nat.zero_le _
  | m :: r => by
    show max (PyData.depth (encMt m)) (PyData.depthAll (r.map encMt)) ≤ 2
    have := depth_mats r
    have h : PyData.depth (encMt m) = max 0 (max (PyData.depthAll (m.vs.map PyData.str) + 1) (max 0 0)) + 1 := rfl
    rw [h, depth_strs]; omega
theorem plain_map {α : Type} (g : α → D) (h : ∀ a, PyData.plain (g a) = true) : ∀ us : List α, PyData.plainAll (us.map g) = true
  | [] => rfl
  | a :: r => by
    show (PyData.plain (g a) && PyData.plainAll (r.map g)) = true
    rw [plain_map g h r, h a]; rfl
theorem depth_map {α : Type} (g : α → D) (n : Nat) (h : ∀ a, PyData.depth (g a) ≤ n) : ∀ us : List α, PyData.depthAll (us.map g) ≤ n
  | [] => Nat.zero_le _
  | a :: r => by
    show max (PyData.depth (g a)) (PyData.depthAll (r.map g)) ≤ n
    have := depth_map g n h r
    have := h a
    omega
theorem shp_list {α : Type} (g : α → D) (n : Nat) (hn : n < 60) (h : ∀ a, PyData.plain (g a) = true) (h2 : ∀ a, PyData.depth (g a) ≤ n) (us : List α) : shpD (.list (us.map g)) = true := by
  refine shp_of (plain_map g h us) ?_
  show PyData.depthAll (us.map g) + 1 ≤ 60
  have := depth_map g n h2 us
  omega
theorem plain_lab (l : Lab) : PyData.plain (encB l) = true := plain_labs l
theorem depth_lab (l : Lab) : PyData.depth (encB l) ≤ 2 := by
  show PyData.depthAll (l.map encP) + 1 ≤ 2
  have := depth_labs l
  omega
theorem shaped_labL (P : List Lab) : shpD (.list (P.map encB)) = true := shp_list encB 2 (by omega) plain_lab depth_lab P
theorem any_labs (l : Lab) : ∀ P : List Lab, ((P.map encB).any fun z => PyData.eqv z (encB l)) = decide (l ∈ P)
  | [] => rfl
  | n :: r => by
    rw [List.map_cons, List.any_cons, eqv_lab, any_labs l r]
    by_cases h : n = l
    · subst h; simp
    · have h2 : l ≠ n := fun e => h e.symm
      simp [h, h2]
theorem inS_labs (neg : Bool) (l : Lab) (P : List Lab) {s : SV} (hs : s = .ol (P.map encB) ∨ s = .d (.list (P.map encB))) : inS neg (.d (encB l)) s = .ok (.d (.bool (if neg then !decide (l ∈ P) else decide (l ∈ P)))) := by
  have e := any_labs l P
  have h : shpD (encB l) = true ∧ shpD (.list (P.map encB)) = true := ⟨shaped_lab l, shaped_labL P⟩
  rcases hs with rfl | rfl
  · show (if _ then _ else _) = _
    rw [if_pos h, e]
  · show (if _ then _ else _) = _
    rw [if_pos h, e]
/-! ### encodings in general -/
theorem inS_dl (neg : Bool) (x : D) (ys : List D) (h : shpD x = true) (h2 : shpD (.list ys) = true) {s : SV} (hs : s = .ol ys ∨ s = .d (.list ys)) : inS neg (.d x) s = .ok (.d (.bool (if neg then !(ys.any fun z => PyData.eqv z x) else ys.any fun z => PyData.eqv z x))) := by
  have q : shpD x = true ∧ shpD (.list ys) = true := ⟨h, h2⟩
  rcases hs with rfl | rfl
  · cases x <;> exact (if_pos q : (if shpD _ = true ∧ shpD _ = true then _ else _) = _)
  · cases x <;> exact (if_pos q : (if shpD _ = true ∧ shpD _ = true then _ else _) = _)
theorem any_enc {α : Type} [DecidableEq α] (g : α → D) (he : ∀ a b, PyData.eqv (g a) (g b) = decide (a = b)) (a : α) : ∀ us : List α, ((us.map g).any fun z => PyData.eqv z (g a)) = decide (a ∈ us)
  | [] => rfl
  | n :: r => by
    rw [List.map_cons, List.any_cons, he, any_enc g he a r]
    by_cases h : n = a
    · subst h; simp
    · have h2 : a ≠ n := fun e => h e.symm
      simp [h, h2]
theorem inS_enc {α : Type} [DecidableEq α] (g : α → D) (n : Nat) (hn : n < 60) (hp : ∀ a, PyData.plain (g a) = true) (hd : ∀ a, PyData.depth (g a) ≤ n) (he : ∀ a b, PyData.eqv (g a) (g b) = decide (a = b)) (neg : Bool) (a : α) (us : List α) {s : SV} (hs : s = .ol (us.map g) ∨ s = .d (.list (us.map g))) : inS neg (.d (g a)) s = .ok (.d (.bool (if neg then !decide (a ∈ us) else decide (a ∈ us)))) := by
  rw [inS_dl neg (g a) (us.map g) (shp_of (hp a) (by have := hd a; omega)) (shp_list g n hn hp hd us) hs, any_enc g he]
theorem sorted_enc {α : Type} (g : α → D) (ha : ∀ a b, PySem.W.alike (g a) (g b) = true) (ht : ∀ a, isTup1 (g a) = true) (hd : ∀ a, PyData.depth (g a) ≤ 60) (ps : List α) (h : ps.length < 1000000) : ∃ qs : List α, Pl.sortedS [.ol (ps.map g)] = .ok (.ol (qs.map g)) ∧ qs.Perm ps ∧ qs = ps.mergeSort fun a b => PySem.W.dataLe false id (g a) (g b) := by
  have hz := line16
  refine ⟨ps.mergeSort fun a b => PySem.W.dataLe false id (g a) (g b), ?_, List.mergeSort_perm ps _, rfl⟩
  unfold Pl.sortedS
  have h1 : allAlike (ps.map g) = true := by
    unfold allAlike
    rw [List.all_eq_true]
    intro a h1
    rw [List.all_eq_true]
    intro b h2
    obtain ⟨p, _, rfl⟩ := List.mem_map.mp h1
    obtain ⟨q, _, rfl⟩ := List.mem_map.mp h2
    exact ha p q
  have h2 : sortable (ps.map g) = true := by
    unfold sortable
    rw [Bool.or_eq_true]
    left
    rw [List.all_eq_true]
    intro a h1
    obtain ⟨p, _, rfl⟩ := List.mem_map.mp h1
    exact ht p
  have h3 : ((ps.map g).all fun d => decide (d.depth ≤ 60)) = true := by
    rw [List.all_eq_true]
    intro a h1
    obtain ⟨p, _, rfl⟩ := List.mem_map.mp h1
    exact decide_eq_true (hd p)
  simp only [datL]
  rw [if_pos ⟨h1, h2, h3, by rw [List.length_map]; omega⟩]
  unfold sortD
  congr 2
  exact (List.map_mergeSort (f := g) (s := PySem.W.dataLe false id) (fun a _ b _ => rfl)).symm
theorem alike_labs : ∀ l m : Lab, PySem.W.alikeAll (l.map encP) (m.map encP) = true
  | [], _ => rfl
  | _ :: _, [] => rfl
  | p :: l, q :: m => by
    show PySem.W.alikeAll (encP p :: l.map encP) (encP q :: m.map encP) = true
    rw [PySem.W.alikeAll, alike_labs l m]; rfl
/-! ### runs: labels and a time -/
abbrev RunT := Lab × Int
def encRn (r : RunT) : D := .tuple [encB r.1, .int r.2]
theorem alike_run (a b : RunT) : PySem.W.alike (encRn a) (encRn b) = true := by
  show PySem.W.alikeAll [encB a.1, .int a.2] [encB b.1, .int b.2] = true
  rw [PySem.W.alikeAll, PySem.W.alikeAll, PySem.W.alikeAll]
  show (PySem.W.alikeAll (a.1.map encP) (b.1.map encP) && (true && true)) = true
  rw [alike_labs]; rfl
theorem plain_run (a : RunT) : PyData.plain (encRn a) = true := by
  show (PyData.plain (encB a.1) && (true && true)) = true
  rw [plain_lab]; rfl
theorem depth_run (a : RunT) : PyData.depth (encRn a) ≤ 3 := by
  show max (PyData.depth (encB a.1)) (max 0 0) + 1 ≤ 3
  have := depth_lab a.1
  omega
theorem eqv_run (a b : RunT) : PyData.eqv (encRn a) (encRn b) = decide (a = b) := by
  show (PyData.eqv (encB a.1) (encB b.1) && (PyData.eqv (.int a.2) (.int b.2) && true)) = _
  rw [eqv_lab, eqv_int]
  simp [Prod.ext_iff, Bool.beq_eq_decide_eq]
theorem inS_runs (neg : Bool) (a : RunT) (us : List RunT) {s : SV} (hs : s = .ol (us.map encRn) ∨ s = .d (.list (us.map encRn))) : inS neg (.d (encRn a)) s = .ok (.d (.bool (if neg then !decide (a ∈ us) else decide (a ∈ us)))) := (inS_enc encRn 3 (by omega) plain_run depth_run eqv_run neg a us hs).trans (by congr)
theorem sorted_runs (ps : List RunT) (h : ps.length < 1000000) : ∃ qs : List RunT, Pl.sortedS [.ol (ps.map encRn)] = .ok (.ol (qs.map encRn)) ∧ qs.Perm ps := let ⟨qs, a, b, _⟩ := sorted_enc encRn alike_run (fun _ => rfl) (fun a => by have := depth_run a; omega) ps h; ⟨qs, a, b⟩
end Pl
namespace Pl
open PySem PySem.Spec PyProof.Rows L2
section
variable {fa fb : En → R SV} {ρ : En} {k : D → En → R En} {f : En → R Fl} {i : Nat}
@[simp] theorem enumD_ap : enumD fa ρ = (fa ρ >>= fun a => match a with
  | .d (.list xs) => .ok (pairUp xs)
  | .ol xs => .ok (pairUp xs)
  | .d (.tuple xs) => .ok (pairUp xs)
  | _ => .bad) := nrfl rfl
@[simp] theorem forP_ap : forP i k f ρ = (match ρ[i]? with
  | some (some (.ol xs)) => forF k f xs (ρ.set i (some (.pin xs))) >>= unpin i
  | some (some (.pin xs)) => forF k f xs ρ
  | some (some (.d (.list xs))) => forF k f xs ρ
  | some (some (.d (.tuple xs))) => forF k f xs ρ
  | _ => .bad) := nrfl rfl
@[simp] theorem npin_pin (x : List D) : SV.npin (.pin x) = false := nrfl rfl
@[simp] theorem unpin_nx (ρ : En) : unpin i (.nx ρ) = (match ρ[i]? with
    | some (some (.pin ys)) => .ok (.nx (ρ.set i (some (.ol ys))))
    | _ => .bad) := nrfl rfl
@[simp] theorem lcmS_i (a b : Int) : lcmS [.d (.int a), .d (.int b)] = if okB a = true ∧ okB b = true then .ok (.d (.int ((Nat.lcm a.natAbs b.natAbs : Nat) : Int))) else .bad := nrfl rfl
@[simp] theorem unpin_rt (r : SV) : unpin i (.rt r) = .ok (.rt r) := nrfl rfl
@[simp] theorem repS_ol (xs : List D) (n : Int) : repS (.ol xs) (.d (.int n)) = if 0 ≤ n ∧ n ≤ 1000 ∧ xs.length ≤ 1000 then .ok (.ol (List.replicate n.toNat xs).flatten) else .bad := nrfl rfl
end
/-- a loop that leaves at the first item that passes -/
theorem forF_find {α : Type} (g : α → D) (p : α → Bool) (r : α → SV) {k : D → En → R En} {b : En → R Fl} {ρ0 : En} (us : List α) (h : ∀ a ∈ us, ∃ ρ1, k (g a) ρ0 = .ok ρ1 ∧ b ρ1 = if p a = true then .ok (.rt (r a)) else .ok (.nx ρ0)) : forF k b (us.map g) ρ0 = .ok (match us.find? p with | some a => .rt (r a) | none => .nx ρ0) := by
  have q := forF_some g (fun a => if p a = true then some (r a) else none) (k := k) (b := b) (ρ0 := ρ0) us fun a ha => by
    obtain ⟨ρ1, h1, h2⟩ := h a ha
    refine ⟨ρ1, h1, ?_⟩
    rw [h2]
    cases p a <;> rfl
  rw [q]
  clear q h
  induction us with
  | nil => rfl
  | cons a us ih =>
    rw [List.findSome?_cons, List.find?_cons]
    cases p a with
    | true => rfl
    | false => simpa using ih
theorem lcF_mapα {α : Type} (g0 : α → D) {k : D → En → R En} {t : En → R Bool} {e : En → R SV} {ρ0 : En} (p : α → Bool) (g : α → D) : ∀ (us : List α), (∀ x, x ∈ us → ∃ ρ1, k (g0 x) ρ0 = .ok ρ1 ∧ t ρ1 = .ok (p x) ∧ (p x = true → ∃ r, e ρ1 = .ok r ∧ datS r = .ok (g x))) → lcF k t e ρ0 (us.map g0) = .ok ((us.filter p).map g)
  | [], _ => rfl
  | x :: us, h => by
    obtain ⟨ρ1, h1, h2, h3⟩ := h x List.mem_cons_self
    have ih := lcF_mapα g0 (k := k) (t := t) (e := e) (ρ0 := ρ0) p g us fun x hx => h x (List.mem_cons_of_mem _ hx)
    rw [List.map_cons]
    unfold lcF
    simp only [h1, h2, ok_bind]
    cases hp : p x with
    | false =>
      rw [List.filter_cons_of_neg (by simp [hp])]
      simpa using ih
    | true =>
      obtain ⟨r, h4, h5⟩ := h3 hp
      rw [List.filter_cons_of_pos hp]
      simp [h4, h5, ih]
theorem irng_at {a b : Int} {i : Nat} (h : i < (b - a).toNat) : (irng a b)[i]? = some (a + (i : Nat)) := by
  unfold irng
  rw [List.getElem?_map, List.getElem?_range h]; rfl
theorem pairUp_irng {α : Type} (g : α → D) (ms : List α) : pairUp (ms.map g) = (irng 0 ms.length).map fun k => .tuple [.int k, (ms[k.toNat]?.map g).getD .none] := by
  apply List.ext_getElem?
  intro i
  by_cases h : i < ms.length
  · have e : (ms.map g)[i]? = some (g (ms[i]'h)) := by simp [h]
    rw [pairUp_at e, List.getElem?_map, irng_at (by omega)]
    simp [h]
  · rw [List.getElem?_eq_none (by simp; omega), List.getElem?_eq_none (by simp [irng_len]; omega)]
end Pl
namespace Pl
open PySem PySem.Spec PyProof.Rows L2
section
variable {ρ : En} {i n : Nat} {f : Nat → Bool} {hit : Nat → Bool} {b h : En → R Fl}
@[simp] theorem raiseS_ap : raiseS n ρ = .ex n [] := nrfl rfl
@[simp] theorem isE_ap : isE i f ρ = (match ρ[i]? with
  | some (some (.exn n _)) => .ok (.d (.bool (f n)))
  | _ => .bad) := nrfl rfl
@[simp] theorem bareE_nil : bareE [] = [] := nrfl rfl
@[simp] theorem bareE_d (x : D) : bareE (some (.d x) :: ρ) = some (.d x) :: bareE ρ := nrfl rfl
@[simp] theorem bareE_ol (x : List D) : bareE (some (.ol x) :: ρ) = none :: bareE ρ := nrfl rfl
@[simp] theorem bareE_no : bareE (none :: ρ) = none :: bareE ρ := nrfl rfl
@[simp] theorem fenceF_d (x : D) : fenceF (.rt (.d x)) = .ok (.rt (.d x)) := nrfl rfl
@[simp] theorem fenceF_ol (x : List D) : fenceF (.rt (.ol x)) = .ok (.rt (.ol x)) := nrfl rfl
@[simp] theorem outF_rt (r : SV) : outF i (.rt r) = fenceF (.rt r) := nrfl rfl
theorem tryAs_ok {fl : Fl} (e : b (bareE ρ) = .ok fl) : tryAs i hit b h ρ = fenceF fl := by unfold tryAs; rw [e]
theorem tryAs_ex {as : List D} (e : b (bareE ρ) = .ex n as) (t : hit n = true) : tryAs i hit b h ρ = (h ((bareE ρ).set i (some (.exn n as))) >>= outF i) := by
  unfold tryAs; rw [e]; simp only [t, if_true]
theorem tryOn_ok {fl : Fl} (e : b (bareE ρ) = .ok fl) : tryOn hit b h ρ = fenceF fl := by unfold tryOn; rw [e]
theorem tryOn_ex {as : List D} (e : b (bareE ρ) = .ex n as) (t : hit n = true) : tryOn hit b h ρ = (h (bareE ρ) >>= fenceF) := by
  unfold tryOn; rw [e]; simp only [t, if_true]
end
/-- the first that passes is the same for two tests -/
theorem find_two {α : Type} {p q : α → Bool} : ∀ us : List α, (∀ s, us.find? q = some s → p s = true) → (∀ s ∈ us, p s = true → q s = true) → us.find? p = us.find? q
  | [], _, _ => rfl
  | a :: us, h1, h2 => by
    cases hq : q a with
    | true =>
      have := h1 a (by rw [List.find?_cons, hq])
      rw [List.find?_cons, List.find?_cons, hq, this]
    | false =>
      have hp : p a = false := by
        cases hp : p a with
        | false => rfl
        | true => rw [h2 a List.mem_cons_self hp] at hq; cases hq
      rw [List.find?_cons, List.find?_cons, hq, hp]
      exact find_two us (fun s e => h1 s (by rw [List.find?_cons, hq]; exact e)) fun s hs => h2 s (List.mem_cons_of_mem _ hs)
theorem irng_first {q : Int → Bool} {b : Int} : ∀ (n : Nat) (a s : Int), (b - a).toNat = n → (irng a b).find? q = some s → a ≤ s ∧ s < b ∧ q s = true ∧ ∀ t, a ≤ t → t < s → q t = false
  | 0, a, s, hn, e => by rw [irng_nil (by omega)] at e; cases e
  | n + 1, a, s, hn, e => by
    rw [irng_cons (by omega), List.find?_cons] at e
    cases hq : q a with
    | true =>
      rw [hq] at e; cases e
      exact ⟨by omega, by omega, hq, fun t h1 h2 => by omega⟩
    | false =>
      rw [hq] at e
      obtain ⟨h1, h2, h3, h4⟩ := irng_first n (a + 1) s (by omega) e
      refine ⟨by omega, h2, h3, fun t ht1 ht2 => ?_⟩
      by_cases z : t = a
      · rw [z]; exact hq
      · exact h4 t (by omega) ht2
/-! ### a row that is turned -/
theorem rot_iff {α : Type} {xs : List α} {k : Nat} (hk : k ≤ xs.length) : xs.drop k ++ xs.take k = xs ↔ ∀ i, i < xs.length → xs[(i + k) % xs.length]? = xs[i]? := by
  have at_ : ∀ i, i < xs.length → (xs.drop k ++ xs.take k)[i]? = xs[(i + k) % xs.length]? := fun i hi => by
    by_cases h : i < xs.length - k
    · rw [List.getElem?_append_left (by rw [List.length_drop]; exact h), List.getElem?_drop, Nat.mod_eq_of_lt (by omega), Nat.add_comm]
    · rw [List.getElem?_append_right (by rw [List.length_drop]; omega), List.length_drop, List.getElem?_take]
      have e : (i + k) % xs.length = i - (xs.length - k) := by
        rw [Nat.mod_eq_sub_mod (by omega), Nat.mod_eq_of_lt (by omega)]; omega
      rw [if_pos (by omega), e]
  constructor
  · intro h i hi
    rw [← at_ i hi, h]
  · intro h
    refine List.ext_getElem? fun i => ?_
    by_cases hi : i < xs.length
    · rw [at_ i hi, h i hi]
    · rw [List.getElem?_eq_none (by rw [List.length_append, List.length_drop, List.length_take]; omega), List.getElem?_eq_none (by omega)]
/-- the least turn that leaves a row as it is divides its length -/
theorem rot_least {α : Type} {xs : List α} {k : Nat} (h0 : 0 < k) (hk : k < xs.length) (h : xs.drop k ++ xs.take k = xs) (hl : ∀ t, 0 < t → t < k → ¬ xs.drop t ++ xs.take t = xs) : k ∣ xs.length := by
  have hn : 0 < xs.length := by omega
  have p : ∀ i, xs[(i + k) % xs.length]? = xs[i % xs.length]? := fun i => by
    have := (rot_iff (by omega)).mp h (i % xs.length) (Nat.mod_lt _ hn)
    rw [← this, Nat.mod_add_mod]
  have pq : ∀ q i, xs[(i + k * q) % xs.length]? = xs[i % xs.length]? := by
    intro q
    induction q with
    | zero => intro i; rfl
    | succ q ih =>
      intro i
      rw [Nat.mul_succ, ← Nat.add_assoc, p, ih]
  rcases Nat.eq_zero_or_pos (xs.length % k) with z | z
  · exact Nat.dvd_of_mod_eq_zero z
  · exfalso
    have ht := Nat.mod_lt xs.length h0
    refine hl (xs.length % k) z ht ((rot_iff (by omega)).mpr fun i hi => ?_)
    have e := pq (xs.length / k) (i + xs.length % k)
    have d := Nat.mod_add_div xs.length k
    rw [← e, show i + xs.length % k + k * (xs.length / k) = i + xs.length by omega, Nat.add_mod_right, Nat.mod_eq_of_lt hi]
end Pl
namespace Pl
open PySem PySem.Spec PyProof.Rows L2
section
variable {ρ : En} {i : Nat} {f fk fx : En → R SV}
@[simp] theorem npin_pd (x : List (Key × D)) : SV.npin (.pd x) = false := nrfl rfl
@[simp] theorem dnewS_ap : dnewS ρ = .ok (.od []) := nrfl rfl
@[simp] theorem key1_s (s : Str) : key1 (.d (.str s)) = .ok (.inr s) := nrfl rfl
@[simp] theorem key1_i (s : Int) : key1 (.d (.int s)) = .ok (.inl s) := nrfl rfl
@[simp] theorem dictOf_od (k : List (Key × D)) : dictOf (.od k) = some k := nrfl rfl
@[simp] theorem dictOf_pd (k : List (Key × D)) : dictOf (.pd k) = some k := nrfl rfl
@[simp] theorem putS_ap : putS i fk f ρ = (f ρ >>= fun r => datS r >>= fun d => match ρ[i]? with
  | some (some (.od kvs)) => fk ρ >>= fun kk => match key1 kk with
    | .ok k => if kvs.length < sizeLine then .ok (.nx (ρ.set i (some (.od (putD kvs k d))))) else .bad
    | _ => .bad
  | _ => .bad) := nrfl rfl
@[simp] theorem dgetS_ap : dgetS i fk ρ = (match ρ[i]? with
  | some (some r) => (match dictOf r with
    | some kvs => fk ρ >>= fun kk => match key1 kk with
      | .ok k => (match valD kvs k with
        | some d => .ok (.d d)
        | none => .bad)
      | _ => .bad
    | none => .bad)
  | _ => .bad) := nrfl rfl
@[simp] theorem dget2S_ap : dget2S i fk fx ρ = (match ρ[i]? with
  | some (some r) => (match dictOf r with
    | some kvs => fk ρ >>= fun kk => match key1 kk with
      | .ok k => fx ρ >>= fun x => (match x with
        | .d x => .ok (.d ((valD kvs k).getD x))
        | _ => .bad)
      | _ => .bad
    | none => .bad)
  | _ => .bad) := nrfl rfl
@[simp] theorem inDS_ap (neg : Bool) : inDS neg i fk ρ = (fk ρ >>= fun kk => match key1 kk with
  | .ok k => (match ρ[i]? with
    | some (some r) => (match dictOf r with
      | some kvs => .ok (.d (.bool (if neg then !(valD kvs k).isSome else (valD kvs k).isSome)))
      | none => .bad)
    | _ => .bad)
  | _ => .bad) := nrfl rfl
@[simp] theorem keysD_ap : keysD i ρ = (match ρ[i]? with
  | some (some (.pd kvs)) => .ok (kvs.map fun kv => keyD kv.1)
  | _ => .bad) := nrfl rfl
end
/-! ### a dict from texts to data -/
def encK {α : Type} (g : α → D) (F : List (Str × α)) : List (Key × D) := F.map fun q => ((Sum.inr q.1 : Key), g q.2)
def valF {α : Type} (F : List (Str × α)) (p : Str) : Option α := (F.find? fun q => decide (q.1 = p)).map (·.2)
theorem valD_enc {α : Type} (g : α → D) (p : Str) : ∀ F : List (Str × α), valD (encK g F) (.inr p) = (valF F p).map g
  | [] => rfl
  | q :: F => by
    have ih := valD_enc g p F
    unfold valD valF encK at ih ⊢
    rw [List.map_cons, List.find?_cons, List.find?_cons]
    by_cases c : q.1 = p
    · simp [c]
    · have c' : ¬ (Sum.inr q.1 : Key) = .inr p := fun z => c (by injection z)
      simp only [c, c', decide_false]
      exact ih
theorem valF_some {α : Type} (p : Str) : ∀ F : List (Str × α), (valF F p).isSome = decide (p ∈ F.map (·.1))
  | [] => rfl
  | q :: F => by
    have ih := valF_some p F
    unfold valF at ih ⊢
    rw [List.find?_cons, List.map_cons]
    by_cases c : q.1 = p
    · simp [c]
    · have c2 : ¬ p = q.1 := fun z => c z.symm
      simp only [c, decide_false, List.mem_cons, c2, false_or]
      exact ih
theorem valF_at {α : Type} : ∀ {F : List (Str × α)} {q : Str × α}, (F.map (·.1)).Nodup → q ∈ F → valF F q.1 = some q.2
  | r :: F, q, nd, h => by
    rw [List.map_cons, List.nodup_cons] at nd
    unfold valF
    rw [List.find?_cons]
    rcases List.mem_cons.mp h with rfl | h
    · simp
    · have c : ¬ r.1 = q.1 := fun z => nd.1 (by rw [z]; exact List.mem_map.mpr ⟨q, h, rfl⟩)
      simp only [c, decide_false]
      exact valF_at nd.2 h
theorem putD_new {α : Type} (g : α → D) {F : List (Str × α)} {p : Str} {x : α} (h : p ∉ F.map (·.1)) : putD (encK g F) (.inr p) (g x) = encK g (F ++ [(p, x)]) := by
  have : ((encK g F).any fun kv => decide (kv.1 = (.inr p : Key))) = false := by
    rw [List.any_eq_false]
    intro kv hk
    obtain ⟨q, hq, rfl⟩ := List.mem_map.mp hk
    simp only [decide_eq_true_eq]
    intro z
    injection z with z
    exact h (List.mem_map.mpr ⟨q, hq, z⟩)
  unfold putD
  rw [this]
  simp [encK]
end Pl
namespace K53
open PySem PySem.Spec PyProof.Rows L2 Pl

/-! ### the text -/
def topS (i : Nat) : Stmt := PySem.Challenge.pw_watchfloor_k53_calendars_ever_on_call_fi.main.body.getD i (.Pass ⟨0, 0, 0, 0⟩)
abbrev s_in_spans : Stmt := topS 2
theorem sc_in_spans : FnScope ["week", "spans", "time", "first", "last"] ["week", "spans", "time"] (defScope s_in_spans) := ⟨rfl, rfl, rfl, by decide +kernel, rfl, by decide +kernel, by decide +kernel⟩
abbrev s_on_layer : Stmt := topS 3
theorem sc_on_layer : FnScope ["week", "layer", "time", "members", "start", "shift", "spans"] ["week", "layer", "time"] (defScope s_on_layer) := ⟨rfl, rfl, rfl, by decide +kernel, rfl, by decide +kernel, by decide +kernel⟩
abbrev s_on_call : Stmt := topS 4
theorem sc_on_call : FnScope ["week", "schedule", "time", "first", "last", "person", "layer"] ["week", "schedule", "time"] (defScope s_on_call) := ⟨rfl, rfl, rfl, by decide +kernel, rfl, by decide +kernel, by decide +kernel⟩
abbrev s_layer_breaks : Stmt := topS 5
theorem sc_layer_breaks : FnScope ["week", "layer", "time", "members", "start", "shift", "spans", "found", "base", "turns", "span", "end"] ["week", "layer", "time"] (defScope s_layer_breaks) := ⟨rfl, rfl, rfl, by decide +kernel, rfl, by decide +kernel, by decide +kernel⟩
abbrev s_next_break : Stmt := topS 6
theorem sc_next_break : FnScope ["week", "schedule", "time", "found", "first", "last", "person", "end", "layer"] ["week", "schedule", "time"] (defScope s_next_break) := ⟨rfl, rfl, rfl, by decide +kernel, rfl, by decide +kernel, by decide +kernel⟩
abbrev s_settled : Stmt := topS 7
theorem sc_settled : FnScope ["schedule", "ends", "layer", "standin"] ["schedule"] (defScope s_settled) := ⟨rfl, rfl, rfl, by decide +kernel, rfl, by decide +kernel, by decide +kernel⟩
abbrev s_period : Stmt := topS 8
theorem sc_period : FnScope ["week", "schedule", "many", "members", "start", "shift", "spans"] ["week", "schedule"] (defScope s_period) := ⟨rfl, rfl, rfl, by decide +kernel, rfl, by decide +kernel, by decide +kernel⟩
abbrev s_stretches : Stmt := topS 9
theorem sc_stretches : FnScope ["week", "schedule", "first", "last", "rows", "time", "person", "later"] ["week", "schedule", "first", "last"] (defScope s_stretches) := ⟨rfl, rfl, rfl, by decide +kernel, rfl, by decide +kernel, by decide +kernel⟩
abbrev s_bounded : Stmt := topS 16
theorem sc_bounded : FnScope ["many"] ["many"] (defScope s_bounded) := ⟨rfl, rfl, rfl, by decide +kernel, rfl, by decide +kernel, by decide +kernel⟩
abbrev s_ever_on_call : Stmt := topS 17
theorem sc_ever_on_call : FnScope ["week", "schedule", "time", "many", "end", "found", "first", "last", "person"] ["week", "schedule", "time"] (defScope s_ever_on_call) := ⟨rfl, rfl, rfl, by decide +kernel, rfl, by decide +kernel, by decide +kernel⟩
abbrev s_law_cell : Stmt := topS 19
theorem sc_law_cell : FnScope ["_law_script", "_law_k"] ["_law_script", "_law_k"] (defScope s_law_cell) := ⟨rfl, rfl, rfl, by decide +kernel, rfl, by decide +kernel, by decide +kernel⟩
abbrev s_law_draws : Stmt := topS 20
theorem sc_law_draws : FnScope ["_law_cell_here", "_law_many", "_law_rows", "_law_rest", "_law_k", "_law_state"] ["_law_cell_here", "_law_many"] (defScope s_law_draws) := ⟨rfl, rfl, rfl, by decide +kernel, rfl, by decide +kernel, by decide +kernel⟩
abbrev s_law_same : Stmt := topS 21
theorem sc_law_same : FnScope ["_law_told_here", "_law_wanted", "_law_k"] ["_law_told_here", "_law_wanted"] (defScope s_law_same) := ⟨rfl, rfl, rfl, by decide +kernel, rfl, by decide +kernel, by decide +kernel⟩
abbrev s_law_words : Stmt := topS 22
theorem sc_law_words : FnScope ["_law_cell_here", "_law_many", "_law_letters", "_law_place", "_law_k"] ["_law_cell_here", "_law_many"] (defScope s_law_words) := ⟨rfl, rfl, rfl, by decide +kernel, rfl, by decide +kernel, by decide +kernel⟩
abbrev s_law_layer : Stmt := topS 23
theorem sc_law_layer : FnScope ["_law_cell_here", "_law_crew", "_law_days", "_law_size", "_law_draws_here", "_law_many", "_law_start", "_law_shift", "_law_some", "_law_spans", "_law_k", "_law_first", "_law_members"] ["_law_cell_here", "_law_crew", "_law_days", "_law_size"] (defScope s_law_layer) := ⟨rfl, rfl, rfl, by decide +kernel, rfl, by decide +kernel, by decide +kernel⟩
abbrev s_law_rota : Stmt := topS 24
theorem sc_law_rota : FnScope ["_law_script", "_law_at", "_law_name", "_law_crew", "_law_days", "_law_size", "_law_draws_here", "_law_many", "_law_some", "_law_k", "_law_layers", "_law_standins", "_law_first"] ["_law_script", "_law_at", "_law_name", "_law_crew", "_law_days", "_law_size"] (defScope s_law_rota) := ⟨rfl, rfl, rfl, by decide +kernel, rfl, by decide +kernel, by decide +kernel⟩
abbrev s_law_edge : Stmt := topS 25
theorem sc_law_edge : FnScope ["_law_script", "_law_at", "_law_name", "_law_crew", "_law_days", "_law_draws_here", "_law_layers", "_law_k", "_law_part", "_law_many", "_law_shift", "_law_members", "_law_spans", "_law_j"] ["_law_script", "_law_at", "_law_name", "_law_crew", "_law_days"] (defScope s_law_edge) := ⟨rfl, rfl, rfl, by decide +kernel, rfl, by decide +kernel, by decide +kernel⟩
abbrev s_law_world : Stmt := topS 26
theorem sc_law_world : FnScope ["_law_script", "_law_draws_here", "_law_edge_here", "_law_days", "_law_crew"] ["_law_script"] (defScope s_law_world) := ⟨rfl, rfl, rfl, by decide +kernel, rfl, by decide +kernel, by decide +kernel⟩
abbrev s_law_any : Stmt := topS 27
theorem sc_law_any : FnScope ["_law_script", "_law_at", "_law_name", "_law_crew", "_law_days", "_law_edge_here"] ["_law_script", "_law_at", "_law_name", "_law_crew", "_law_days", "_law_edge_here"] (defScope s_law_any) := ⟨rfl, rfl, rfl, by decide +kernel, rfl, by decide +kernel, by decide +kernel⟩
abbrev s_law_inside : Stmt := topS 28
theorem sc_law_inside : FnScope ["_law_days", "_law_spans", "_law_time_here", "_law_first", "_law_last"] ["_law_days", "_law_spans", "_law_time_here"] (defScope s_law_inside) := ⟨rfl, rfl, rfl, by decide +kernel, rfl, by decide +kernel, by decide +kernel⟩
abbrev s_law_member : Stmt := topS 29
theorem sc_law_member : FnScope ["_law_days", "_law_layer_here", "_law_time_here", "_law_members", "_law_start", "_law_shift", "_law_spans"] ["_law_days", "_law_layer_here", "_law_time_here"] (defScope s_law_member) := ⟨rfl, rfl, rfl, by decide +kernel, rfl, by decide +kernel, by decide +kernel⟩
abbrev s_law_on : Stmt := topS 30
theorem sc_law_on : FnScope ["_law_days", "_law_rota_here", "_law_time_here", "_law_person", "_law_layer_here", "_law_who", "_law_first", "_law_last"] ["_law_days", "_law_rota_here", "_law_time_here"] (defScope s_law_on) := ⟨rfl, rfl, rfl, by decide +kernel, rfl, by decide +kernel, by decide +kernel⟩
abbrev s_law_lcm : Stmt := topS 31
theorem sc_law_lcm : FnScope ["_law_one", "_law_other", "_law_found", "_law_turn"] ["_law_one", "_law_other"] (defScope s_law_lcm) := ⟨rfl, rfl, rfl, by decide +kernel, rfl, by decide +kernel, by decide +kernel⟩
abbrev s_law_period : Stmt := topS 32
theorem sc_law_period : FnScope ["_law_days", "_law_rota_here", "_law_many", "_law_members", "_law_start", "_law_shift", "_law_spans"] ["_law_days", "_law_rota_here"] (defScope s_law_period) := ⟨rfl, rfl, rfl, by decide +kernel, rfl, by decide +kernel, by decide +kernel⟩
abbrev s_law_settled : Stmt := topS 33
theorem sc_law_settled : FnScope ["_law_rota_here", "_law_begin", "_law_layer_here", "_law_standin"] ["_law_rota_here"] (defScope s_law_settled) := ⟨rfl, rfl, rfl, by decide +kernel, rfl, by decide +kernel, by decide +kernel⟩
abbrev s_law_time : Stmt := topS 34
theorem sc_law_time : FnScope ["_law_cell_here", "_law_draws_here"] ["_law_cell_here"] (defScope s_law_time) := ⟨rfl, rfl, rfl, by decide +kernel, rfl, by decide +kernel, by decide +kernel⟩
abbrev s_law_firsts : Stmt := topS 35
theorem sc_law_firsts : FnScope ["_law_days", "_law_rota_here", "_law_time_here", "_law_rows", "_law_known", "_law_tick", "_law_person"] ["_law_days", "_law_rota_here", "_law_time_here"] (defScope s_law_firsts) := ⟨rfl, rfl, rfl, by decide +kernel, rfl, by decide +kernel, by decide +kernel⟩
abbrev s_law_told : Stmt := topS 36
theorem sc_law_told : FnScope ["_law_days", "_law_rota_here", "_law_time_here", "e"] ["_law_days", "_law_rota_here", "_law_time_here"] (defScope s_law_told) := ⟨rfl, rfl, rfl, by decide +kernel, rfl, by decide +kernel, by decide +kernel⟩
abbrev s_law : Stmt := topS 37
theorem sc_law : FnScope ["_law_script", "_law_days", "_law_crew", "_law_edge_here", "_law_rota_here", "_law_k", "_law_time_here", "_law_wanted"] ["_law_script"] (defScope s_law) := ⟨rfl, rfl, rfl, by decide +kernel, rfl, by decide +kernel, by decide +kernel⟩
/-! ### the plain functions -/
def in_spans_b : En → R Fl :=
    (retS (callB anyS (conB (lcE (seqD (getV 1)) (tupG 2 (gsC (setD 3) (gsC (setD 4) gsN))) yesT (chain leS ltS (peek 3) (bin modS (peek 2) (peek 0)) (peek 4)) [3, 4]) nilB)))
def in_spans_f : List D → R SV := runB 3 5 in_spans_b
def on_layer_b : En → R Fl :=
    (seqS (asgG (tupG 4 (gsC (setD 3) (gsC (setD 4) (gsC (setD 5) (gsC (setD 6) gsN))))) (getV 1))
    (seqS (ifS (asT (bin ltS (peek 2) (peek 4))) (retS (kon .none)) skip)
    (seqS (ifS (andT (tru (peek 6)) (notT (tru (callF 3 in_spans_f (conA (getV 0) (conA (getV 6) (conA (getV 2) nilA))))))) (retS (kon .none)) skip)
    (retS (bin ixS (peek 3) (bin modS (bin fdivS (bin subS (peek 2) (peek 4)) (peek 5)) (callB lenS (conB (peek 3) nilB))))))))
def on_layer_f : List D → R SV := runB 3 7 on_layer_b
def on_call_w1 : En → R Fl :=
    (kill [3, 4] (ifS (asT (chain leS ltS (peek 3) (peek 2) (peek 4))) (retV 5) skip))
def on_call_w2 : En → R Fl :=
    (kill [5, 6] (seqS (asgS 5 (callF 3 on_layer_f (conA (getV 0) (conA (getV 6) (conA (getV 2) nilA)))))
    (ifS (asT (bin (isnS true) (peek 5) (kon .none))) (retV 5) skip)))
def on_call_b : En → R Fl :=
    (seqS (forS (seqD (una revS (callB listS (conB (bin ixS (peek 1) (kon (.int 2))) nilB)))) (tupG 3 (gsC (setD 3) (gsC (setD 4) (gsC (setD 5) gsN)))) on_call_w1)
    (seqS (forS (seqD (una revS (callB listS (conB (bin ixS (peek 1) (kon (.int 1))) nilB)))) (setD 6) on_call_w2)
    (retS (kon .none))))
def on_call_f : List D → R SV := runB 3 7 on_call_b
def layer_breaks_w1 : En → R Fl :=
    (kill [11] (appS 7 (bin addS (peek 8) (bin modS (bin subS (peek 11) (peek 8)) (peek 0)))))
def layer_breaks_w2 : En → R Fl :=
    (kill [10, 11] (forS (seqD (getV 10)) (setD 11) layer_breaks_w1))
def layer_breaks_b : En → R Fl :=
    (seqS (asgG (tupG 4 (gsC (setD 3) (gsC (setD 4) (gsC (setD 5) (gsC (setD 6) gsN))))) (getV 1))
    (seqS (asgS 7 (dispL nilA))
    (seqS (ifS (asT (bin gtS (peek 4) (peek 2))) (appS 7 (getV 4)) skip)
    (seqS (asgS 8 (callB max2S (conB (bin addS (peek 2) (kon (.int 1))) (conB (peek 4) nilB))))
    (seqS (ifS (asT (bin gtS (callB lenS (conB (peek 3) nilB)) (kon (.int 1)))) (seqS (asgS 9 (bin fdivS (bin subS (bin addS (bin subS (peek 8) (peek 4)) (peek 5)) (kon (.int 1))) (peek 5)))
    (appS 7 (bin addS (peek 4) (bin mulA (peek 9) (peek 5))))) skip)
    (seqS (forS (seqD (getV 6)) (setD 10) layer_breaks_w2)
    (retV 7)))))))
def layer_breaks_f : List D → R SV := runB 3 12 layer_breaks_b
def next_break_w1 : En → R Fl :=
    (kill [7] (ifS (asT (bin gtS (peek 7) (peek 2))) (appS 3 (getV 7)) skip))
def next_break_w2 : En → R Fl :=
    (kill [4, 5, 6, 7] (forS (seqD (dispT (conA (getV 4) (conA (getV 5) nilA)))) (setD 7) next_break_w1))
def next_break_w3 : En → R Fl :=
    (kill [8] (extS 3 (callF 3 layer_breaks_f (conA (getV 0) (conA (getV 8) (conA (getV 2) nilA))))))
def next_break_b : En → R Fl :=
    (seqS (asgS 3 (dispL nilA))
    (seqS (forS (seqD (bin ixS (peek 1) (kon (.int 2)))) (tupG 3 (gsC (setD 4) (gsC (setD 5) (gsC (setD 6) gsN)))) next_break_w2)
    (seqS (forS (seqD (bin ixS (peek 1) (kon (.int 1)))) (setD 8) next_break_w3)
    (seqS (ifS (notT (tru (peek 3))) (retS (kon .none)) skip)
    (retS (callB minS (conB (peek 3) nilB)))))))
def next_break_f : List D → R SV := runB 3 9 next_break_b
def settled_w1 : En → R Fl :=
    (kill [2] (appS 1 (bin ixS (peek 2) (kon (.int 1)))))
def settled_w2 : En → R Fl :=
    (kill [3] (appS 1 (bin ixS (peek 3) (kon (.int 1)))))
def settled_b : En → R Fl :=
    (seqS (asgS 1 (dispL (conA (kon (.int 0)) nilA)))
    (seqS (forS (seqD (bin ixS (peek 0) (kon (.int 1)))) (setD 2) settled_w1)
    (seqS (forS (seqD (bin ixS (peek 0) (kon (.int 2)))) (setD 3) settled_w2)
    (retS (callB maxS (conB (peek 1) nilB))))))
def settled_f : List D → R SV := runB 1 4 settled_b
def period_w1 : En → R Fl :=
    (kill [3, 4, 5, 6] (seqS (ifS (asT (bin gtS (callB lenS (conB (peek 3) nilB)) (kon (.int 1)))) (asgS 2 (callB lcmS (conB (peek 2) (conB (bin mulA (peek 5) (callB lenS (conB (peek 3) nilB))) nilB)))) skip)
    (ifS (tru (peek 6)) (asgS 2 (callB lcmS (conB (peek 2) (conB (peek 0) nilB)))) skip)))
def period_b : En → R Fl :=
    (seqS (asgS 2 (kon (.int 1)))
    (seqS (forS (seqD (bin ixS (peek 1) (kon (.int 1)))) (tupG 4 (gsC (setD 3) (gsC (setD 4) (gsC (setD 5) (gsC (setD 6) gsN))))) period_w1)
    (retV 2)))
def period_f : List D → R SV := runB 2 7 period_b
def stretches_w1 : En → R Fl :=
    (kill [6, 7] (seqS (asgS 6 (callF 3 on_call_f (conA (getV 0) (conA (getV 1) (conA (getV 5) nilA)))))
    (seqS (asgS 7 (callF 3 next_break_f (conA (getV 0) (conA (getV 1) (conA (getV 5) nilA)))))
    (seqS (ifS (orT (asT (bin (isnS false) (peek 7) (kon .none))) (asT (bin gtS (peek 7) (peek 3)))) (asgS 7 (getV 3)) skip)
    (seqS (ifS (andT (tru (peek 4)) (asT (bin (eqS false) (bin ixS (bin ixS (peek 4) (una negS (kon (.int 1)))) (kon (.int 2))) (peek 6)))) (frzS [6, 7] (setS 4 (una negS (kon (.int 1))) (dispT (conA (bin ixS (bin ixS (peek 4) (una negS (kon (.int 1)))) (kon (.int 0))) (conA (getV 7) (conA (getV 6) nilA)))))) (frzS [6, 7] (appS 4 (dispT (conA (getV 5) (conA (getV 7) (conA (getV 6) nilA)))))))
    (frzS [7] (asgS 5 (getV 7))))))))
def stretches_t1 : En → R Bool :=
    (asT (bin ltS (peek 5) (peek 3)))
def stretches_b : En → R Fl :=
    (seqS (asgS 4 (dispL nilA))
    (seqS (asgS 5 (getV 2))
    (seqS (whileS fuel stretches_t1 stretches_w1)
    (retV 4))))
def stretches_f : List D → R SV := runB 4 8 stretches_b
def bounded_b : En → R Fl :=
    (seqS (ifS (asT (bin gtS (peek 0) (kon (.int 2000)))) (raiseS 0) skip)
    (retV 0))
def bounded_f : List D → R SV := runB 1 1 bounded_b
def ever_on_call_w1 : En → R Fl :=
    (kill [6, 7, 8] (ifS (andT (asT (bin (isnS true) (peek 8) (kon .none))) (asT (inDS true 5 (peek 8)))) (putS 5 (peek 8) (getV 6)) skip))
def ever_on_call_b : En → R Fl :=
    (seqS (asgS 3 (callF 1 bounded_f (conA (callF 2 period_f (conA (getV 0) (conA (getV 1) nilA))) nilA)))
    (seqS (asgS 4 (bin addS (callB max2S (conB (peek 2) (conB (callF 1 settled_f (conA (getV 1) nilA)) nilB))) (peek 3)))
    (seqS (asgS 5 dnewS)
    (seqS (frzS [4] (forS (seqD (callF 4 stretches_f (conA (getV 0) (conA (getV 1) (conA (getV 2) (conA (getV 4) nilA)))))) (tupG 3 (gsC (setD 6) (gsC (setD 7) (gsC (setD 8) gsN)))) ever_on_call_w1))
    (retS (lockD 5 (lcE (keysD 5) (setD 8) yesT (dispT (conA (getV 8) (conA (dgetS 5 (peek 8)) nilA))) [8])))))))
def ever_on_call_f : List D → R SV := runB 3 9 ever_on_call_b
def law_cell_b : En → R Fl :=
    (seqS (ifS (asT (bin ltS (peek 1) (callB lenS (conB (peek 0) nilB)))) (retS (callB intS (conB (bin ixS (peek 0) (peek 1)) nilB))) skip)
    (seqS (ifS (asT (bin gtS (callB lenS (conB (peek 0) nilB)) (kon (.int 0)))) (retS (bin addS (callB intS (conB (bin ixS (peek 0) (bin modS (callB intS (conB (peek 1) nilB)) (callB lenS (conB (peek 0) nilB)))) nilB)) (bin mulA (kon (.int 104729)) (peek 1)))) skip)
    (retS (bin mulA (kon (.int 104729)) (peek 1)))))
def law_cell_f : List D → R SV := runB 2 2 law_cell_b
def law_draws_w1 : En → R Fl :=
    (kill [4] (ifS (asT (bin gtS (peek 3) (kon (.int 0)))) (seqS (appS 2 (bin modS (callB intS (conB (peek 3) nilB)) (kon (.int 1000))))
    (asgS 3 (bin fdivS (peek 3) (kon (.int 1000))))) skip))
def law_draws_w2 : En → R Fl :=
    (kill [4] (seqS (asgS 5 (bin modS (callB intS (conB (bin addS (bin addS (bin mulA (peek 5) (kon (.int 48271))) (bin mulA (peek 4) (kon (.int 69621)))) (kon (.int 7))) nilB)) (kon (.int 2147483647))))
    (ifS (asT (bin ltS (callB lenS (conB (peek 2) nilB)) (peek 1))) (appS 2 (bin modS (callB intS (conB (bin modS (callB intS (conB (bin addS (bin mulA (peek 5) (kon (.int 69621))) (kon (.int 5))) nilB)) (kon (.int 2147483629))) nilB)) (kon (.int 1000)))) skip)))
def law_draws_b : En → R Fl :=
    (seqS (asgS 2 (dispL nilA))
    (seqS (asgS 3 (callB intS (conB (peek 0) nilB)))
    (seqS (ifS (asT (bin geS (peek 3) (bin powS (kon (.int 10)) (kon (.int 18))))) (forS (rngD1 (conB (peek 1) nilB)) (setD 4) law_draws_w1) skip)
    (seqS (asgS 5 (bin modS (callB intS (conB (bin addS (bin mulA (callB intS (conB (peek 0) nilB)) (kon (.int 48271))) (kon (.int 11))) nilB)) (kon (.int 2147483647))))
    (seqS (forS (rngD1 (conB (peek 1) nilB)) (setD 4) law_draws_w2)
    (retV 2))))))
def law_draws_f : List D → R SV := runB 2 6 law_draws_b
def law_same_w1 (self : List D → R SV) : En → R Fl :=
    (kill [2] (ifS (notT (tru (callF 2 self (conA (bin ixS (peek 0) (peek 2)) (conA (bin ixS (peek 1) (peek 2)) nilA))))) (retS (kon (.bool false))) skip))
def law_same_b (self : List D → R SV) : En → R Fl :=
    (seqS (ifS (asT (bin (isnS false) (peek 1) (kon .none))) (retS (bin (isnS false) (peek 0) (kon .none))) skip)
    (seqS (ifS (tru (isi "bool" (peek 1))) (retS (andV (isi "bool" (peek 0)) (bin (eqS false) (peek 0) (peek 1)))) skip)
    (seqS (ifS (tru (isi "int" (peek 1))) (retS (andV (isi "int" (peek 0)) (andV (notN (isi "bool" (peek 0))) (bin (eqS false) (peek 0) (peek 1))))) skip)
    (seqS (ifS (tru (isi "str" (peek 1))) (retS (andV (isi "str" (peek 0)) (bin (eqS false) (peek 0) (peek 1)))) skip)
    (seqS (ifS (andT (tru (isi "tuple" (peek 1))) (notT (tru (isi "tuple" (peek 0))))) (retS (kon (.bool false))) skip)
    (seqS (ifS (andT (tru (isi "list" (peek 1))) (notT (tru (isi "list" (peek 0))))) (retS (kon (.bool false))) skip)
    (seqS (ifS (asT (bin (eqS true) (callB lenS (conB (peek 0) nilB)) (callB lenS (conB (peek 1) nilB)))) (retS (kon (.bool false))) skip)
    (seqS (forS (rngD1 (conB (callB lenS (conB (peek 1) nilB)) nilB)) (setD 2) (law_same_w1 self))
    (retS (kon (.bool true)))))))))))
def law_same_r : Nat → List D → R SV
  | 0 => fun _ => .bad
  | n + 1 => runB 2 3 (law_same_b (law_same_r n))
def law_same_f : List D → R SV := law_same_r 8
def law_words_b : En → R Fl :=
    (seqS (asgS 2 (kon (.str "abcdefghijklmnopqrstuvwxyz")))
    (seqS (asgS 3 (bin modS (callB intS (conB (bin fdivS (callB intS (conB (peek 0) nilB)) (kon (.int 26))) nilB)) (kon (.int 4))))
    (retS (lcE (rngD1 (conB (peek 1) nilB)) (setD 4) yesT (bin addS (bin addS (slice (kon (.str "xyz")) noO (someO (peek 3))) (bin ixS (peek 2) (bin modS (callB intS (conB (bin addS (callB intS (conB (peek 0) nilB)) (bin mulA (kon (.int 3)) (peek 4))) nilB)) (kon (.int 26))))) (slice (kon (.str "xyzw")) (someO (peek 3)) noO)) [4]))))
def law_words_f : List D → R SV := runB 2 5 law_words_b
def law_layer_w1 : En → R Fl :=
    (kill [10, 11] (seqS (asgS 11 (bin modS (callB intS (conB (bin addS (bin mulA (bin ixS (peek 4) (bin addS (kon (.int 16)) (bin mulA (kon (.int 4)) (peek 10)))) (kon (.int 1000))) (bin ixS (peek 4) (bin addS (kon (.int 17)) (bin mulA (kon (.int 4)) (peek 10))))) nilB)) (peek 2)))
    (appS 9 (dispT (conA (getV 11) (conA (bin addS (bin addS (peek 11) (kon (.int 1))) (bin modS (callB intS (conB (bin addS (bin mulA (bin ixS (peek 4) (bin addS (kon (.int 18)) (bin mulA (kon (.int 4)) (peek 10)))) (kon (.int 1000))) (bin ixS (peek 4) (bin addS (kon (.int 19)) (bin mulA (kon (.int 4)) (peek 10))))) nilB)) (bin subS (peek 2) (peek 11)))) nilA))))))
def law_layer_b : En → R Fl :=
    (seqS (asgS 4 (callF 2 law_draws_f (conA (getV 0) (conA (kon (.int 40)) nilA))))
    (seqS (asgS 5 (bin addS (kon (.int 1)) (bin modS (callB intS (conB (bin ixS (peek 4) (kon (.int 0))) nilB)) (kon (.int 3)))))
    (seqS (asgS 6 (bin modS (callB intS (conB (bin ixS (peek 4) (kon (.int 1))) nilB)) (kon (.int 13))))
    (seqS (asgS 7 (bin addS (kon (.int 1)) (bin modS (callB intS (conB (bin ixS (peek 4) (kon (.int 2))) nilB)) (bin ixS (dispL (conA (kon (.int 4)) (conA (kon (.int 9)) (conA (kon (.int 1000)) nilA)))) (peek 3)))))
    (seqS (asgS 8 (bin modS (callB intS (conB (bin ixS (peek 4) (kon (.int 5))) nilB)) (kon (.int 3))))
    (seqS (ifS (asT (bin (eqS false) (peek 3) (kon (.int 2)))) (seqS (asgS 5 (bin addS (kon (.int 1)) (bin modS (callB intS (conB (bin ixS (peek 4) (kon (.int 0))) nilB)) (kon (.int 10)))))
    (seqS (asgS 6 (bin modS (callB intS (conB (bin addS (bin mulA (bin ixS (peek 4) (kon (.int 1))) (kon (.int 1000))) (bin ixS (peek 4) (kon (.int 3)))) nilB)) (kon (.int 2001))))
    (asgS 8 (bin modS (callB intS (conB (bin ixS (peek 4) (kon (.int 5))) nilB)) (kon (.int 7)))))) skip)
    (seqS (asgS 9 (dispL nilA))
    (seqS (forS (rngD1 (conB (peek 8) nilB)) (setD 10) law_layer_w1)
    (seqS (asgS 12 (lcE (rngD1 (conB (peek 5) nilB)) (setD 10) yesT (bin ixS (peek 1) (bin modS (callB intS (conB (bin ixS (peek 4) (bin addS (kon (.int 6)) (peek 10))) nilB)) (callB lenS (conB (peek 1) nilB)))) [10]))
    (frzS [7] (retS (dispT (conA (callB tupS (conB (peek 12) nilB)) (conA (getV 6) (conA (getV 7) (conA (callB tupS (conB (peek 9) nilB)) nilA))))))))))))))))
def law_layer_f : List D → R SV := runB 4 13 law_layer_b
def law_rota_w1 : En → R Fl :=
    (kill [9, 12] (seqS (asgS 12 (bin modS (callB intS (conB (bin ixS (peek 6) (bin addS (kon (.int 2)) (bin mulA (kon (.int 3)) (peek 9)))) nilB)) (kon (.int 30))))
    (seqS (ifS (asT (bin (eqS false) (peek 5) (kon (.int 2)))) (asgS 12 (bin mulA (kon (.int 3)) (callB intS (conB (bin ixS (peek 6) (bin addS (kon (.int 2)) (bin mulA (kon (.int 3)) (peek 9)))) nilB)))) skip)
    (appS 11 (dispT (conA (getV 12) (conA (bin addS (bin addS (peek 12) (kon (.int 1))) (bin modS (callB intS (conB (bin ixS (peek 6) (bin addS (kon (.int 3)) (bin mulA (kon (.int 3)) (peek 9)))) nilB)) (kon (.int 12)))) (conA (bin ixS (peek 3) (bin modS (callB intS (conB (bin ixS (peek 6) (bin addS (kon (.int 4)) (bin mulA (kon (.int 3)) (peek 9)))) nilB)) (callB lenS (conB (peek 3) nilB)))) nilA))))))))
def law_rota_b : En → R Fl :=
    (seqS (asgS 6 (callF 2 law_draws_f (conA (callF 2 law_cell_f (conA (getV 0) (conA (getV 1) nilA))) (conA (kon (.int 62)) nilA))))
    (seqS (asgS 7 (bin ixS (dispL (conA (kon (.int 0)) (conA (kon (.int 1)) (conA (kon (.int 1)) (conA (kon (.int 1)) (conA (kon (.int 2)) (conA (kon (.int 2)) (conA (kon (.int 2)) (conA (kon (.int 3)) nilA))))))))) (bin modS (callB intS (conB (bin ixS (peek 6) (kon (.int 0))) nilB)) (kon (.int 8)))))
    (seqS (asgS 8 (bin modS (callB intS (conB (bin ixS (peek 6) (kon (.int 1))) nilB)) (kon (.int 4))))
    (seqS (ifS (asT (bin (eqS false) (peek 5) (kon (.int 2)))) (seqS (asgS 7 (bin modS (callB intS (conB (bin ixS (peek 6) (kon (.int 0))) nilB)) (kon (.int 7))))
    (asgS 8 (bin modS (callB intS (conB (bin ixS (peek 6) (kon (.int 1))) nilB)) (kon (.int 21))))) skip)
    (seqS (asgS 10 (lcE (rngD1 (conB (peek 7) nilB)) (setD 9) yesT (callF 4 law_layer_f (conA (callF 2 law_cell_f (conA (getV 0) (conA (bin addS (bin addS (peek 1) (kon (.int 1))) (peek 9)) nilA))) (conA (getV 3) (conA (getV 4) (conA (getV 5) nilA))))) [9]))
    (seqS (asgS 11 (dispL nilA))
    (seqS (forS (rngD1 (conB (peek 8) nilB)) (setD 9) law_rota_w1)
    (retS (dispT (conA (getV 2) (conA (callB tupS (conB (peek 10) nilB)) (conA (callB tupS (conB (peek 11) nilB)) nilA))))))))))))
def law_rota_f : List D → R SV := runB 6 13 law_rota_b
def law_edge_w1 : En → R Fl :=
    (kill [7, 8, 9, 10, 11, 12] (seqS (asgS 8 (slice (peek 5) (someO (bin addS (kon (.int 1)) (bin mulA (kon (.int 14)) (peek 7)))) (someO (bin addS (kon (.int 15)) (bin mulA (kon (.int 14)) (peek 7))))))
    (seqS (asgS 9 (bin addS (kon (.int 1)) (bin modS (callB intS (conB (bin ixS (peek 8) (kon (.int 0))) nilB)) (kon (.int 10)))))
    (seqS (asgS 10 (callB min2S (conB (kon (.int 1000)) (conB (callB max2S (conB (kon (.int 1)) (conB (bin subS (bin addS (bin fdivS (kon (.int 2000)) (peek 9)) (bin modS (callB intS (conB (bin ixS (peek 8) (kon (.int 1))) nilB)) (kon (.int 3)))) (kon (.int 1))) nilB))) nilB))))
    (seqS (ifS (asT (bin (eqS false) (bin modS (callB intS (conB (bin ixS (peek 8) (kon (.int 2))) nilB)) (kon (.int 3))) (kon (.int 0)))) (asgS 10 (bin addS (kon (.int 1)) (bin modS (callB intS (conB (bin ixS (peek 8) (kon (.int 1))) nilB)) (kon (.int 1000))))) skip)
    (seqS (asgS 11 (lcE (rngD1 (conB (peek 9) nilB)) (setD 13) yesT (bin ixS (peek 3) (bin modS (callB intS (conB (bin ixS (peek 8) (bin addS (kon (.int 4)) (peek 13))) nilB)) (callB lenS (conB (peek 3) nilB)))) [13]))
    (seqS (asgS 12 (dispL nilA))
    (seqS (ifS (asT (bin (eqS false) (bin modS (callB intS (conB (bin ixS (peek 8) (kon (.int 3))) nilB)) (kon (.int 3))) (kon (.int 0)))) (appS 12 (dispT (conA (bin modS (callB intS (conB (bin ixS (peek 8) (kon (.int 2))) nilB)) (peek 4)) (conA (getV 4) nilA)))) skip)
    (frzS [10] (appS 6 (dispT (conA (callB tupS (conB (peek 11) nilB)) (conA (bin modS (callB intS (conB (bin ixS (peek 5) (bin addS (kon (.int 29)) (peek 7))) nilB)) (kon (.int 61))) (conA (getV 10) (conA (callB tupS (conB (peek 12) nilB)) nilA)))))))))))))))
def law_edge_b : En → R Fl :=
    (seqS (asgS 5 (callF 2 law_draws_f (conA (callF 2 law_cell_f (conA (getV 0) (conA (getV 1) nilA))) (conA (kon (.int 32)) nilA))))
    (seqS (asgS 6 (dispL nilA))
    (seqS (forS (rngD1 (conB (bin addS (kon (.int 1)) (callB intS (conB (bin (eqS false) (bin modS (callB intS (conB (bin ixS (peek 5) (kon (.int 0))) nilB)) (kon (.int 4))) (kon (.int 0))) nilB))) nilB)) (setD 7) law_edge_w1)
    (retS (dispT (conA (getV 2) (conA (callB tupS (conB (peek 6) nilB)) (conA (dispT nilA) nilA))))))))
def law_edge_f : List D → R SV := runB 5 14 law_edge_b
def law_world_b : En → R Fl :=
    (seqS (asgS 1 (callF 2 law_draws_f (conA (callF 2 law_cell_f (conA (getV 0) (conA (kon (.int 0)) nilA))) (conA (kon (.int 5)) nilA))))
    (seqS (asgS 2 (bin (eqS false) (bin modS (callB intS (conB (bin ixS (peek 1) (kon (.int 0))) nilB)) (kon (.int 10))) (kon (.int 7))))
    (seqS (asgS 3 (bin addS (kon (.int 1)) (bin modS (callB intS (conB (bin ixS (peek 1) (kon (.int 1))) nilB)) (kon (.int 12)))))
    (seqS (ifS (tru (peek 2)) (asgS 3 (bin ixS (dispL (conA (kon (.int 2000)) (conA (kon (.int 1999)) (conA (kon (.int 1000)) (conA (kon (.int 7)) (conA (bin addS (kon (.int 1)) (bin modS (callB intS (conB (bin addS (bin mulA (bin ixS (peek 1) (kon (.int 2))) (kon (.int 1000))) (bin ixS (peek 1) (kon (.int 4)))) nilB)) (kon (.int 2000)))) nilA)))))) (bin modS (callB intS (conB (bin ixS (peek 1) (kon (.int 1))) nilB)) (kon (.int 5))))) skip)
    (seqS (asgS 4 (callF 2 law_words_f (conA (callF 2 law_cell_f (conA (getV 0) (conA (kon (.int 1)) nilA))) (conA (bin addS (kon (.int 1)) (bin modS (callB intS (conB (bin ixS (peek 1) (kon (.int 3))) nilB)) (kon (.int 4)))) nilA))))
    (frzS [3, 4] (retS (dispL (conA (getV 3) (conA (getV 4) (conA (getV 2) nilA)))))))))))
def law_world_f : List D → R SV := runB 1 5 law_world_b
def law_any_b : En → R Fl :=
    (seqS (ifS (tru (peek 5)) (retS (callF 5 law_edge_f (conA (getV 0) (conA (getV 1) (conA (getV 2) (conA (getV 3) (conA (getV 4) nilA))))))) skip)
    (retS (callF 6 law_rota_f (conA (getV 0) (conA (getV 1) (conA (getV 2) (conA (getV 3) (conA (getV 4) (conA (kon (.int 0)) nilA)))))))))
def law_any_f : List D → R SV := runB 6 6 law_any_b
def law_inside_w1 : En → R Fl :=
    (kill [3, 4] (ifS (asT (chain leS ltS (peek 3) (bin modS (callB intS (conB (peek 2) nilB)) (peek 0)) (peek 4))) (retS (kon (.bool true))) skip))
def law_inside_b : En → R Fl :=
    (seqS (forS (seqD (getV 1)) (tupG 2 (gsC (setD 3) (gsC (setD 4) gsN))) law_inside_w1)
    (retS (kon (.bool false))))
def law_inside_f : List D → R SV := runB 3 5 law_inside_b
def law_member_b : En → R Fl :=
    (seqS (asgG (tupG 4 (gsC (setD 3) (gsC (setD 4) (gsC (setD 5) (gsC (setD 6) gsN))))) (getV 1))
    (seqS (ifS (asT (bin ltS (peek 2) (peek 4))) (retS (kon .none)) skip)
    (seqS (ifS (andT (asT (bin gtS (callB lenS (conB (peek 6) nilB)) (kon (.int 0)))) (notT (tru (callF 3 law_inside_f (conA (getV 0) (conA (getV 6) (conA (getV 2) nilA))))))) (retS (kon .none)) skip)
    (retS (bin ixS (peek 3) (bin modS (callB intS (conB (bin fdivS (bin subS (peek 2) (peek 4)) (peek 5)) nilB)) (callB lenS (conB (peek 3) nilB))))))))
def law_member_f : List D → R SV := runB 3 7 law_member_b
def law_on_w1 : En → R Fl :=
    (kill [4, 5] (seqS (asgS 5 (callF 3 law_member_f (conA (getV 0) (conA (getV 4) (conA (getV 2) nilA)))))
    (ifS (asT (bin (isnS true) (peek 5) (kon .none))) (frzS [5] (asgS 3 (getV 5))) skip)))
def law_on_w2 : En → R Fl :=
    (kill [6, 7] (ifS (asT (chain leS ltS (peek 6) (peek 2) (peek 7))) (frzS [5] (asgS 3 (getV 5))) skip))
def law_on_b : En → R Fl :=
    (seqS (asgS 3 (kon .none))
    (seqS (forS (seqD (bin ixS (peek 1) (kon (.int 1)))) (setD 4) law_on_w1)
    (seqS (forS (seqD (bin ixS (peek 1) (kon (.int 2)))) (tupG 3 (gsC (setD 6) (gsC (setD 7) (gsC (setD 5) gsN)))) law_on_w2)
    (retV 3))))
def law_on_f : List D → R SV := runB 3 8 law_on_b
def law_lcm_w1 : En → R Fl :=
    (kill [3] (seqS (ifS (asT (bin (eqS false) (bin modS (callB intS (conB (peek 2) nilB)) (peek 1)) (kon (.int 0)))) (retV 2) skip)
    (asgS 2 (bin addS (peek 2) (peek 0)))))
def law_lcm_b : En → R Fl :=
    (seqS (asgS 2 (getV 0))
    (seqS (forS (rngD1 (conB (peek 1) nilB)) (setD 3) law_lcm_w1)
    (retV 2)))
def law_lcm_f : List D → R SV := runB 2 4 law_lcm_b
def law_period_w1 : En → R Fl :=
    (kill [3, 4, 5, 6] (seqS (ifS (asT (bin gtS (callB lenS (conB (peek 3) nilB)) (kon (.int 1)))) (frzS [2] (asgS 2 (callF 2 law_lcm_f (conA (getV 2) (conA (bin mulA (peek 5) (callB lenS (conB (peek 3) nilB))) nilA))))) skip)
    (ifS (asT (bin gtS (callB lenS (conB (peek 6) nilB)) (kon (.int 0)))) (frzS [2] (asgS 2 (callF 2 law_lcm_f (conA (getV 2) (conA (getV 0) nilA))))) skip)))
def law_period_b : En → R Fl :=
    (seqS (asgS 2 (kon (.int 1)))
    (seqS (forS (seqD (bin ixS (peek 1) (kon (.int 1)))) (tupG 4 (gsC (setD 3) (gsC (setD 4) (gsC (setD 5) (gsC (setD 6) gsN))))) law_period_w1)
    (retV 2)))
def law_period_f : List D → R SV := runB 2 7 law_period_b
def law_settled_w1 : En → R Fl :=
    (kill [2] (asgS 1 (callB max2S (conB (peek 1) (conB (bin ixS (peek 2) (kon (.int 1))) nilB)))))
def law_settled_w2 : En → R Fl :=
    (kill [3] (asgS 1 (callB max2S (conB (peek 1) (conB (bin ixS (peek 3) (kon (.int 1))) nilB)))))
def law_settled_b : En → R Fl :=
    (seqS (asgS 1 (kon (.int 0)))
    (seqS (forS (seqD (bin ixS (peek 0) (kon (.int 1)))) (setD 2) law_settled_w1)
    (seqS (forS (seqD (bin ixS (peek 0) (kon (.int 2)))) (setD 3) law_settled_w2)
    (retV 1))))
def law_settled_f : List D → R SV := runB 1 4 law_settled_b
def law_time_b : En → R Fl :=
    (seqS (asgS 1 (callF 2 law_draws_f (conA (getV 0) (conA (kon (.int 4)) nilA))))
    (seqS (ifS (asT (bin (eqS false) (bin modS (callB intS (conB (bin ixS (peek 1) (kon (.int 3))) nilB)) (kon (.int 4))) (kon (.int 0)))) (retS (bin addS (bin addS (bin mulA (bin ixS (peek 1) (kon (.int 0))) (bin powS (kon (.int 10)) (kon (.int 6)))) (bin mulA (bin ixS (peek 1) (kon (.int 1))) (kon (.int 1000)))) (bin ixS (peek 1) (kon (.int 2))))) skip)
    (retS (bin modS (callB intS (conB (bin ixS (peek 1) (kon (.int 0))) nilB)) (kon (.int 61))))))
def law_time_f : List D → R SV := runB 1 2 law_time_b
def law_firsts_w1 : En → R Fl :=
    (kill [5, 6] (seqS (asgS 6 (callF 3 law_on_f (conA (getV 0) (conA (getV 1) (conA (getV 5) nilA)))))
    (ifS (andT (asT (bin (isnS true) (peek 6) (kon .none))) (asT (bin (inS true) (peek 6) (peek 4)))) (seqS (frzS [6] (appS 4 (getV 6)))
    (frzS [6] (appS 3 (dispT (conA (getV 6) (conA (getV 5) nilA)))))) skip)))
def law_firsts_b : En → R Fl :=
    (seqS (asgS 3 (dispL nilA))
    (seqS (asgS 4 (dispL nilA))
    (seqS (forS (rngD2 (conB (peek 2) (conB (bin addS (callB max2S (conB (peek 2) (conB (callF 1 law_settled_f (conA (getV 1) nilA)) nilB))) (callF 2 law_period_f (conA (getV 0) (conA (getV 1) nilA)))) nilB))) (setD 5) law_firsts_w1)
    (retV 3))))
def law_firsts_f : List D → R SV := runB 3 7 law_firsts_b
def law_told_b1 : En → R Fl :=
    (retS (dispT (conA (kon (.str "told")) (conA (callF 3 ever_on_call_f (conA (getV 0) (conA (getV 1) (conA (getV 2) nilA)))) nilA))))
def law_told_h1 : En → R Fl :=
    (retS (dispT (conA (kon (.str "refused")) (conA (isE 3 (fun n => match n with | 0 => true | _ => false)) (conA (isE 3 (fun n => match n with | 0 => false | _ => false)) nilA)))))
def law_told_b : En → R Fl :=
    (tryAs 3 (fun n => match n with | 0 => true | _ => false) law_told_b1 law_told_h1)
def law_told_f : List D → R SV := runB 3 4 law_told_b
def law_w1 : En → R Fl :=
    (kill [5, 6, 7] (seqS (asgS 6 (callF 1 law_time_f (conA (callF 2 law_cell_f (conA (getV 0) (conA (bin addS (kon (.int 9)) (peek 5)) nilA))) nilA)))
    (seqS (asgS 7 (dispT (conA (kon (.str "refused")) (conA (kon (.bool true)) (conA (kon (.bool false)) nilA)))))
    (seqS (frzS [4] (ifS (asT (bin leS (callF 2 law_period_f (conA (getV 1) (conA (getV 4) nilA))) (kon (.int 2000)))) (frzS [4, 6] (asgS 7 (dispT (conA (kon (.str "told")) (conA (callF 3 law_firsts_f (conA (getV 1) (conA (getV 4) (conA (getV 6) nilA)))) nilA))))) skip))
    (frzS [4, 6] (ifS (notT (tru (callF 2 law_same_f (conA (callF 3 law_told_f (conA (getV 1) (conA (getV 4) (conA (getV 6) nilA)))) (conA (getV 7) nilA))))) (retS (kon (.bool false))) skip))))))
def law_b : En → R Fl :=
    (seqS (asgG (tupG 3 (gsC (setD 1) (gsC (setD 2) (gsC (setD 3) gsN)))) (callF 1 law_world_f (conA (getV 0) nilA)))
    (seqS (asgS 4 (callF 6 law_any_f (conA (getV 0) (conA (kon (.int 2)) (conA (bin addS (kon (.str "r")) (bin ixS (peek 2) (kon (.int 0)))) (conA (getV 2) (conA (getV 1) (conA (getV 3) nilA))))))))
    (seqS (forS (rngD1 (conB (kon (.int 2)) nilB)) (setD 5) law_w1)
    (retS (kon (.bool true))))))
def law_f : List D → R SV := runB 1 8 law_b
/-! ### the promises -/
section
variable {P : Program} {w : World} {K : PySem.W.Frag} {mg : Str → Option Value} {base : Heap} {cm : Nat → Addr × List Str}
structure Bl (K : PySem.W.Frag) (mg : Str → Option Value) (cm : Nat → Addr × List Str) (A_PeriodTooLong A_WatchError A_TooManyTimes : Addr) : Prop where
  any_ : mg "any" = none
  bool_ : mg "bool" = none
  int_ : mg "int" = none
  isinstance_ : mg "isinstance" = none
  len_ : mg "len" = none
  list_ : mg "list" = none
  max_ : mg "max" = none
  min_ : mg "min" = none
  range_ : mg "range" = none
  str_ : mg "str" = none
  tuple_ : mg "tuple" = none
  m0 : cm 0 = (A_PeriodTooLong, [])
  z0 : Xc K mg "PeriodTooLong" A_PeriodTooLong
  g_PeriodTooLong : mg "PeriodTooLong" = some (.ref A_PeriodTooLong)
  g_WatchError : mg "WatchError" = some (.ref A_WatchError)
  g_TooManyTimes : mg "TooManyTimes" = some (.ref A_TooManyTimes)
  h0_WatchError : PySem.W.exmOne K (.ref A_PeriodTooLong) (.ref A_WatchError) = some true
  i0_PeriodTooLong : PySem.W.kitOne K (.ref A_PeriodTooLong) (.ref A_PeriodTooLong) = some true
  i0_TooManyTimes : PySem.W.kitOne K (.ref A_PeriodTooLong) (.ref A_TooManyTimes) = some false
  x0 : ExcC K A_PeriodTooLong
variable {A_PeriodTooLong A_WatchError A_TooManyTimes : Addr}
theorem ok_in_spans (Bz : Bl K mg cm A_PeriodTooLong A_WatchError A_TooManyTimes)  {f_in_spans : Addr} {fd_in_spans : FuncData} (T_in_spans : Fn K mg "in_spans" s_in_spans ["week", "spans", "time"] f_in_spans fd_in_spans) : FnOk P w K mg base CX0 1 f_in_spans fd_in_spans ["week", "spans", "time"] (spF K cm 3 in_spans_f) := by
  refine mk_ok (k := 0) T_in_spans.F sc_in_spans fun cdv A outer s H E hr => ⟨_,
    (pss_one (ps_ret (pe_callB (cr_any rfl) (by rfl) Bz.any_ (by decide +kernel) (pa_cons (pe_lc (own := [("first", 3), ("last", 4)]) (g := (gSq K 2 (gCons (gName 3) (gCons (gName 4) gNil)))) (tt := tYes) (te := (tChain rLe rLt (tVar 3) (tOp (rI (fun _ j => 0 < j) fun i j => .int (i % j)) (tVar 2) (tVar 0)) (tVar 4))) rfl sc_in_spans.nd (pi_seq (pv 1)) (blkOk_by (N := ["week", "spans", "time", "first", "last"]) (sc := defScope s_in_spans) (by decide +kernel)) (fun _ _ _ _ _ => (pg_sq (by rfl) (pgs_cons (pg_name (i := 3) sc_in_spans.nd rfl (.inl rfl)) (pgs_cons (pg_name (i := 4) sc_in_spans.nd rfl (.inl rfl)) pgs_nil)))) (fun _ _ _ _ _ => pts_nil) (fun _ _ _ _ _ => (pe_chain o_le o_lt (pv 3) (pe_op op_mod (pv 2) (pv 0)) (pv 4)))) pa_nil)))), ?_⟩
  exact fun ex => (sem_ret (sem_callB c1_any (sem_conB (SemE.look (sem_lc (vs := [3, 4]) (sem_seqI sem_var) (sem_gTup (n := 2) (sem_gsC (sem_gName (i := 3)) (sem_gsC (sem_gName (i := 4)) sem_gsN))) sem_yes (sem_chain r2_le r2_lt sem_peek (SemE.look (sem_bin r2_mod sem_peek sem_peek)) sem_peek) (by decide))) sem_nilB)))
theorem ok_on_layer (Bz : Bl K mg cm A_PeriodTooLong A_WatchError A_TooManyTimes) {f_in_spans : Addr} {fd_in_spans : FuncData} (T_in_spans : Fn K mg "in_spans" s_in_spans ["week", "spans", "time"] f_in_spans fd_in_spans) {f_on_layer : Addr} {fd_on_layer : FuncData} (T_on_layer : Fn K mg "on_layer" s_on_layer ["week", "layer", "time"] f_on_layer fd_on_layer) : FnOk P w K mg base CX0 2 f_on_layer fd_on_layer ["week", "layer", "time"] (spF K cm 3 on_layer_f) := by
  have G_in_spans : FnOk P w K mg base CX0 1 f_in_spans fd_in_spans ["week", "spans", "time"] (spF K cm 3 in_spans_f) := ok_in_spans Bz  T_in_spans
  refine mk_ok (k := 1) T_on_layer.F sc_on_layer fun cdv A outer s H E hr => ⟨_,
    (pss_cons (ps_asg (pv 1) (pg_sq (by rfl) (pgs_cons (pg_name (i := 3) sc_on_layer.nd rfl (.inl rfl)) (pgs_cons (pg_name (i := 4) sc_on_layer.nd rfl (.inl rfl)) (pgs_cons (pg_name (i := 5) sc_on_layer.nd rfl (.inl rfl)) (pgs_cons (pg_name (i := 6) sc_on_layer.nd rfl (.inl rfl)) pgs_nil))))))
    (pss_cons (ps_if (pt_cmpR o_lt (pv 2) (pv 4) (nomark _)) (pss_one (ps_ret pe_non)) pss_nil)
    (pss_cons (ps_if (PW.pt (pw_and (pt_truth (pv 6) (fun _ => rfl)) (pw_and1 (pt_not (pt_truth (pe_call (G_in_spans) (hr.mono (by omega)) (by rfl) T_in_spans.m T_in_spans.F.kp T_in_spans.b .nil (passE (E := E)) (pa_cons (pv 0) (pa_cons (pv 6) (pa_cons (pv 2) pa_nil)))) (fun _ => rfl)))))) (pss_one (ps_ret pe_non)) pss_nil)
    (pss_one (ps_ret (pe_ix ix_seq (pv 3) (pe_op op_mod (pe_op op_fdiv (pe_op op_sub (pv 2) (pv 4)) (pv 5)) (pe_callB cb_len (by rfl) Bz.len_ (by decide +kernel) (pa_cons (pv 3) pa_nil))) (fun _ _ => rfl))))))), ?_⟩
  exact fun ex => (sem_seq (sem_asgG sem_var (sem_gTup (n := 4) (sem_gsC (sem_gName (i := 3)) (sem_gsC (sem_gName (i := 4)) (sem_gsC (sem_gName (i := 5)) (sem_gsC (sem_gName (i := 6)) sem_gsN))))))
    (sem_seq (sem_if (sem_tTest (sem_bin r2_lt sem_peek sem_peek)) (sem_ret sem_non) sem_skip)
    (sem_seq (sem_if (sem_and (sem_tru sem_peek) (sem_not (sem_tru (SemE.look (sem_call (sem_conA sem_var (sem_conA sem_var (sem_conA sem_var sem_nilA)))))))) (sem_ret sem_non) sem_skip)
    (sem_ret (sem_bin r2_ix sem_peek (SemE.look (sem_bin r2_mod (SemE.look (sem_bin r2_fdiv (SemE.look (sem_bin r2_sub sem_peek sem_peek)) sem_peek)) (SemE.look (sem_callB c1_len (sem_conB sem_peek sem_nilB))))))))))
theorem ok_on_call (Bz : Bl K mg cm A_PeriodTooLong A_WatchError A_TooManyTimes) {f_on_layer : Addr} {fd_on_layer : FuncData} (T_on_layer : Fn K mg "on_layer" s_on_layer ["week", "layer", "time"] f_on_layer fd_on_layer) {f_in_spans : Addr} {fd_in_spans : FuncData} (T_in_spans : Fn K mg "in_spans" s_in_spans ["week", "spans", "time"] f_in_spans fd_in_spans) {f_on_call : Addr} {fd_on_call : FuncData} (T_on_call : Fn K mg "on_call" s_on_call ["week", "schedule", "time"] f_on_call fd_on_call) : FnOk P w K mg base CX0 3 f_on_call fd_on_call ["week", "schedule", "time"] (spF K cm 3 on_call_f) := by
  have G_on_layer : FnOk P w K mg base CX0 2 f_on_layer fd_on_layer ["week", "layer", "time"] (spF K cm 3 on_layer_f) := ok_on_layer Bz T_in_spans T_on_layer
  refine mk_ok (k := 2) T_on_call.F sc_on_call fun cdv A outer s H E hr => ⟨_,
    (pss_cons (ps_for PassesOwn.never rfl (pi_seq (pe_revL (pe_callTy cb_list (by rfl) Bz.list_ (by decide +kernel) (pa_cons (pe_ix ix_seq (pv 1) pe_int (fun _ _ => rfl)) pa_nil)))) (pg_sq (by rfl) (pgs_cons (pg_name (i := 3) sc_on_call.nd rfl (.inl rfl)) (pgs_cons (pg_name (i := 4) sc_on_call.nd rfl (.inl rfl)) (pgs_cons (pg_name (i := 5) sc_on_call.nd rfl (.inl rfl)) pgs_nil)))) (pss_one (ps_if (pt_chain o_le o_lt (pv 3) (pv 2) (pv 4)) (pss_one (ps_ret (pv 5))) pss_nil)))
    (pss_cons (ps_for PassesOwn.never rfl (pi_seq (pe_revL (pe_callTy cb_list (by rfl) Bz.list_ (by decide +kernel) (pa_cons (pe_ix ix_seq (pv 1) pe_int (fun _ _ => rfl)) pa_nil)))) (pg_name (i := 6) sc_on_call.nd rfl (.inl rfl)) (pss_cons (ps_set (i := 5) sc_on_call.nd rfl (.inl rfl) (pe_call (G_on_layer) (hr.mono (by omega)) (by rfl) T_on_layer.m T_on_layer.F.kp T_on_layer.b .nil (passE (E := E)) (pa_cons (pv 0) (pa_cons (pv 6) (pa_cons (pv 2) pa_nil)))))
    (pss_one (ps_if (pt_cmpR op_notN (pv 5) pe_non (nomark _)) (pss_one (ps_ret (pv 5))) pss_nil))))
    (pss_one (ps_ret pe_non)))), ?_⟩
  exact fun ex => (sem_seq (sem_for (sem_seqI (sem_revL (SemE.look (sem_callB c1_list (sem_conB (SemE.look (sem_bin r2_ix sem_peek sem_int)) sem_nilB))))) (sem_gTup (n := 3) (sem_gsC (sem_gName (i := 3)) (sem_gsC (sem_gName (i := 4)) (sem_gsC (sem_gName (i := 5)) sem_gsN)))) (sem_kill (is := [3, 4]) (sem_if (sem_tTest (sem_chain r2_le r2_lt sem_peek sem_peek sem_peek)) (sem_retV (i := 5)) sem_skip)))
    (sem_seq (sem_for (sem_seqI (sem_revL (SemE.look (sem_callB c1_list (sem_conB (SemE.look (sem_bin r2_ix sem_peek sem_int)) sem_nilB))))) (sem_gName (i := 6)) (sem_kill (is := [5, 6]) (sem_seq (sem_set (sem_call (sem_conA sem_var (sem_conA sem_var (sem_conA sem_var sem_nilA)))))
    (sem_if (sem_tTest (sem_bin r2_notn sem_peek sem_non)) (sem_retV (i := 5)) sem_skip))))
    (sem_ret sem_non)))
theorem ok_layer_breaks (Bz : Bl K mg cm A_PeriodTooLong A_WatchError A_TooManyTimes)  {f_layer_breaks : Addr} {fd_layer_breaks : FuncData} (T_layer_breaks : Fn K mg "_layer_breaks" s_layer_breaks ["week", "layer", "time"] f_layer_breaks fd_layer_breaks) : FnOk P w K mg base CX0 1 f_layer_breaks fd_layer_breaks ["week", "layer", "time"] (spF K cm 3 layer_breaks_f) := by
  refine mk_ok (k := 0) T_layer_breaks.F sc_layer_breaks fun cdv A outer s H E hr => ⟨_,
    (pss_cons (ps_asg (pv 1) (pg_sq (by rfl) (pgs_cons (pg_name (i := 3) sc_layer_breaks.nd rfl (.inl rfl)) (pgs_cons (pg_name (i := 4) sc_layer_breaks.nd rfl (.inl rfl)) (pgs_cons (pg_name (i := 5) sc_layer_breaks.nd rfl (.inl rfl)) (pgs_cons (pg_name (i := 6) sc_layer_breaks.nd rfl (.inl rfl)) pgs_nil))))))
    (pss_cons (ps_set (i := 7) sc_layer_breaks.nd rfl (.inl rfl) (pe_lst pa_nil))
    (pss_cons (ps_if (pt_cmpR o_gt (pv 4) (pv 2) (nomark _)) (pss_one (ps_expr (pe_bm PySem.F.plainAttrs_list PySem.F.slot_list_append PySem.F.type_list_append mt_append (pv 7) (pa_cons (pv 4) pa_nil)))) pss_nil)
    (pss_cons (ps_set (i := 8) sc_layer_breaks.nd rfl (.inl rfl) (pe_callB (cb_max2 rfl) (by rfl) Bz.max_ (by decide +kernel) (pa_cons (pe_op o_add (pv 2) pe_int) (pa_cons (pv 4) pa_nil))))
    (pss_cons (ps_if (pt_cmpR o_gt (pe_callB cb_len (by rfl) Bz.len_ (by decide +kernel) (pa_cons (pv 3) pa_nil)) pe_int (nomark _)) (pss_cons (ps_set (i := 9) sc_layer_breaks.nd rfl (.inl rfl) (pe_op op_fdiv (pe_op op_sub (pe_op o_add (pe_op op_sub (pv 8) (pv 4)) (pv 5)) pe_int) (pv 5)))
    (pss_one (ps_expr (pe_bm PySem.F.plainAttrs_list PySem.F.slot_list_append PySem.F.type_list_append mt_append (pv 7) (pa_cons (pe_op o_add (pv 4) (pe_op o_mul (pv 9) (pv 5))) pa_nil))))) pss_nil)
    (pss_cons (ps_for PassesOwn.never rfl (pi_seq (pv 6)) (pg_name (i := 10) sc_layer_breaks.nd rfl (.inl rfl)) (pss_one (ps_for PassesOwn.never rfl (pi_seq (pv 10)) (pg_name (i := 11) sc_layer_breaks.nd rfl (.inl rfl)) (pss_one (ps_expr (pe_bm PySem.F.plainAttrs_list PySem.F.slot_list_append PySem.F.type_list_append mt_append (pv 7) (pa_cons (pe_op o_add (pv 8) (pe_op op_mod (pe_op op_sub (pv 11) (pv 8)) (pv 0))) pa_nil)))))))
    (pss_one (ps_ret (pv 7))))))))), ?_⟩
  exact fun ex => (sem_seq (sem_asgG sem_var (sem_gTup (n := 4) (sem_gsC (sem_gName (i := 3)) (sem_gsC (sem_gName (i := 4)) (sem_gsC (sem_gName (i := 5)) (sem_gsC (sem_gName (i := 6)) sem_gsN))))))
    (sem_seq (sem_set (sem_lst sem_nilA))
    (sem_seq (sem_if (sem_tTest (sem_bin r2_gt sem_peek sem_peek)) (sem_app (i := 7) sem_var) sem_skip)
    (sem_seq (sem_set (sem_callB c1_max2 (sem_conB (SemE.look (sem_bin r2_add sem_peek sem_int)) (sem_conB sem_peek sem_nilB))))
    (sem_seq (sem_if (sem_tTest (sem_bin r2_gt (SemE.look (sem_callB c1_len (sem_conB sem_peek sem_nilB))) sem_int)) (sem_seq (sem_set (sem_bin r2_fdiv (SemE.look (sem_bin r2_sub (SemE.look (sem_bin r2_add (SemE.look (sem_bin r2_sub sem_peek sem_peek)) sem_peek)) sem_int)) sem_peek))
    (sem_app (i := 7) (sem_bin r2_add sem_peek (SemE.look (sem_bin r2_mulA sem_peek sem_peek))))) sem_skip)
    (sem_seq (sem_for (sem_seqI sem_var) (sem_gName (i := 10)) (sem_kill (is := [10, 11]) (sem_for (sem_seqI sem_var) (sem_gName (i := 11)) (sem_kill (is := [11]) (sem_app (i := 7) (sem_bin r2_add sem_peek (SemE.look (sem_bin r2_mod (SemE.look (sem_bin r2_sub sem_peek sem_peek)) sem_peek))))))))
    (sem_retV (i := 7))))))))
theorem ok_next_break (Bz : Bl K mg cm A_PeriodTooLong A_WatchError A_TooManyTimes) {f_layer_breaks : Addr} {fd_layer_breaks : FuncData} (T_layer_breaks : Fn K mg "_layer_breaks" s_layer_breaks ["week", "layer", "time"] f_layer_breaks fd_layer_breaks) {f_next_break : Addr} {fd_next_break : FuncData} (T_next_break : Fn K mg "next_break" s_next_break ["week", "schedule", "time"] f_next_break fd_next_break) : FnOk P w K mg base CX0 2 f_next_break fd_next_break ["week", "schedule", "time"] (spF K cm 3 next_break_f) := by
  have G_layer_breaks : FnOk P w K mg base CX0 1 f_layer_breaks fd_layer_breaks ["week", "layer", "time"] (spF K cm 3 layer_breaks_f) := ok_layer_breaks Bz  T_layer_breaks
  refine mk_ok (k := 1) T_next_break.F sc_next_break fun cdv A outer s H E hr => ⟨_,
    (pss_cons (ps_set (i := 3) sc_next_break.nd rfl (.inl rfl) (pe_lst pa_nil))
    (pss_cons (ps_for PassesOwn.never rfl (pi_seq (pe_ix ix_seq (pv 1) pe_int (fun _ _ => rfl))) (pg_sq (by rfl) (pgs_cons (pg_name (i := 4) sc_next_break.nd rfl (.inl rfl)) (pgs_cons (pg_name (i := 5) sc_next_break.nd rfl (.inl rfl)) (pgs_cons (pg_name (i := 6) sc_next_break.nd rfl (.inl rfl)) pgs_nil)))) (pss_one (ps_for PassesOwn.never rfl (pi_seq (pe_tup (pa_cons (pv 4) (pa_cons (pv 5) pa_nil)))) (pg_name (i := 7) sc_next_break.nd rfl (.inl rfl)) (pss_one (ps_if (pt_cmpR o_gt (pv 7) (pv 2) (nomark _)) (pss_one (ps_expr (pe_bm PySem.F.plainAttrs_list PySem.F.slot_list_append PySem.F.type_list_append mt_append (pv 3) (pa_cons (pv 7) pa_nil)))) pss_nil)))))
    (pss_cons (ps_for PassesOwn.never rfl (pi_seq (pe_ix ix_seq (pv 1) pe_int (fun _ _ => rfl))) (pg_name (i := 8) sc_next_break.nd rfl (.inl rfl)) (pss_one (ps_expr (pe_bm PySem.F.plainAttrs_list PySem.F.slot_list_extend PySem.F.type_list_extend mt_extend (pv 3) (pa_cons (pe_call (G_layer_breaks) (hr.mono (by omega)) (by rfl) T_layer_breaks.m T_layer_breaks.F.kp T_layer_breaks.b .nil (passE (E := E)) (pa_cons (pv 0) (pa_cons (pv 8) (pa_cons (pv 2) pa_nil)))) pa_nil)))))
    (pss_cons (ps_if (pt_not (pt_truth (pv 3) (fun _ => rfl))) (pss_one (ps_ret pe_non)) pss_nil)
    (pss_one (ps_ret (pe_callB (cr_min rfl) (by rfl) Bz.min_ (by decide +kernel) (pa_cons (pv 3) pa_nil)))))))), ?_⟩
  exact fun ex => (sem_seq (sem_set (sem_lst sem_nilA))
    (sem_seq (sem_for (sem_seqI (sem_bin r2_ix sem_peek sem_int)) (sem_gTup (n := 3) (sem_gsC (sem_gName (i := 4)) (sem_gsC (sem_gName (i := 5)) (sem_gsC (sem_gName (i := 6)) sem_gsN)))) (sem_kill (is := [4, 5, 6, 7]) (sem_for (sem_seqI (sem_tup (sem_conA sem_var (sem_conA sem_var sem_nilA)))) (sem_gName (i := 7)) (sem_kill (is := [7]) (sem_if (sem_tTest (sem_bin r2_gt sem_peek sem_peek)) (sem_app (i := 3) sem_var) sem_skip)))))
    (sem_seq (sem_for (sem_seqI (sem_bin r2_ix sem_peek sem_int)) (sem_gName (i := 8)) (sem_kill (is := [8]) (sem_ext (i := 3) (sem_call (sem_conA sem_var (sem_conA sem_var (sem_conA sem_var sem_nilA)))))))
    (sem_seq (sem_if (sem_not (sem_tru sem_peek)) (sem_ret sem_non) sem_skip)
    (sem_ret (sem_callB c1_min (sem_conB sem_peek sem_nilB)))))))
theorem ok_settled (Bz : Bl K mg cm A_PeriodTooLong A_WatchError A_TooManyTimes)  {f_settled : Addr} {fd_settled : FuncData} (T_settled : Fn K mg "settled" s_settled ["schedule"] f_settled fd_settled) : FnOk P w K mg base CX0 1 f_settled fd_settled ["schedule"] (spF K cm 1 settled_f) := by
  refine mk_ok (k := 0) T_settled.F sc_settled fun cdv A outer s H E hr => ⟨_,
    (pss_cons (ps_set (i := 1) sc_settled.nd rfl (.inl rfl) (pe_lst (pa_cons pe_int pa_nil)))
    (pss_cons (ps_for PassesOwn.never rfl (pi_seq (pe_ix ix_seq (pv 0) pe_int (fun _ _ => rfl))) (pg_name (i := 2) sc_settled.nd rfl (.inl rfl)) (pss_one (ps_expr (pe_bm PySem.F.plainAttrs_list PySem.F.slot_list_append PySem.F.type_list_append mt_append (pv 1) (pa_cons (pe_ix ix_seq (pv 2) pe_int (fun _ _ => rfl)) pa_nil)))))
    (pss_cons (ps_for PassesOwn.never rfl (pi_seq (pe_ix ix_seq (pv 0) pe_int (fun _ _ => rfl))) (pg_name (i := 3) sc_settled.nd rfl (.inl rfl)) (pss_one (ps_expr (pe_bm PySem.F.plainAttrs_list PySem.F.slot_list_append PySem.F.type_list_append mt_append (pv 1) (pa_cons (pe_ix ix_seq (pv 3) pe_int (fun _ _ => rfl)) pa_nil)))))
    (pss_one (ps_ret (pe_callB (cr_max rfl) (by rfl) Bz.max_ (by decide +kernel) (pa_cons (pv 1) pa_nil))))))), ?_⟩
  exact fun ex => (sem_seq (sem_set (sem_lst (sem_conA sem_int sem_nilA)))
    (sem_seq (sem_for (sem_seqI (sem_bin r2_ix sem_peek sem_int)) (sem_gName (i := 2)) (sem_kill (is := [2]) (sem_app (i := 1) (sem_bin r2_ix sem_peek sem_int))))
    (sem_seq (sem_for (sem_seqI (sem_bin r2_ix sem_peek sem_int)) (sem_gName (i := 3)) (sem_kill (is := [3]) (sem_app (i := 1) (sem_bin r2_ix sem_peek sem_int))))
    (sem_ret (sem_callB c1_max (sem_conB sem_peek sem_nilB))))))
theorem ok_period (Bz : Bl K mg cm A_PeriodTooLong A_WatchError A_TooManyTimes) (C_lcm : True ∧ mg "lcm" = some (.builtin "math.lcm"))  {f_period : Addr} {fd_period : FuncData} (T_period : Fn K mg "period" s_period ["week", "schedule"] f_period fd_period) : FnOk P w K mg base CX0 1 f_period fd_period ["week", "schedule"] (spF K cm 2 period_f) := by
  refine mk_ok (k := 0) T_period.F sc_period fun cdv A outer s H E hr => ⟨_,
    (pss_cons (ps_set (i := 2) sc_period.nd rfl (.inl rfl) pe_int)
    (pss_cons (ps_for PassesOwn.never rfl (pi_seq (pe_ix ix_seq (pv 1) pe_int (fun _ _ => rfl))) (pg_sq (by rfl) (pgs_cons (pg_name (i := 3) sc_period.nd rfl (.inl rfl)) (pgs_cons (pg_name (i := 4) sc_period.nd rfl (.inl rfl)) (pgs_cons (pg_name (i := 5) sc_period.nd rfl (.inl rfl)) (pgs_cons (pg_name (i := 6) sc_period.nd rfl (.inl rfl)) pgs_nil))))) (pss_cons (ps_if (pt_cmpR o_gt (pe_callB cb_len (by rfl) Bz.len_ (by decide +kernel) (pa_cons (pv 3) pa_nil)) pe_int (nomark _)) (pss_one (ps_set (i := 2) sc_period.nd rfl (.inl rfl) (pe_callBfun cr_lcm (by rfl) C_lcm.2 (pa_cons (pv 2) (pa_cons (pe_op o_mul (pv 5) (pe_callB cb_len (by rfl) Bz.len_ (by decide +kernel) (pa_cons (pv 3) pa_nil))) pa_nil))))) pss_nil)
    (pss_one (ps_if (pt_truth (pv 6) (fun _ => rfl)) (pss_one (ps_set (i := 2) sc_period.nd rfl (.inl rfl) (pe_callBfun cr_lcm (by rfl) C_lcm.2 (pa_cons (pv 2) (pa_cons (pv 0) pa_nil))))) pss_nil))))
    (pss_one (ps_ret (pv 2))))), ?_⟩
  exact fun ex => (sem_seq (sem_set sem_int)
    (sem_seq (sem_for (sem_seqI (sem_bin r2_ix sem_peek sem_int)) (sem_gTup (n := 4) (sem_gsC (sem_gName (i := 3)) (sem_gsC (sem_gName (i := 4)) (sem_gsC (sem_gName (i := 5)) (sem_gsC (sem_gName (i := 6)) sem_gsN))))) (sem_kill (is := [3, 4, 5, 6]) (sem_seq (sem_if (sem_tTest (sem_bin r2_gt (SemE.look (sem_callB c1_len (sem_conB sem_peek sem_nilB))) sem_int)) (sem_set (sem_callB c1_lcm (sem_conB sem_peek (sem_conB (SemE.look (sem_bin r2_mulA sem_peek (SemE.look (sem_callB c1_len (sem_conB sem_peek sem_nilB))))) sem_nilB)))) sem_skip)
    (sem_if (sem_tru sem_peek) (sem_set (sem_callB c1_lcm (sem_conB sem_peek (sem_conB sem_peek sem_nilB)))) sem_skip))))
    (sem_retV (i := 2))))
theorem ok_stretches (Bz : Bl K mg cm A_PeriodTooLong A_WatchError A_TooManyTimes) {f_on_call : Addr} {fd_on_call : FuncData} (T_on_call : Fn K mg "on_call" s_on_call ["week", "schedule", "time"] f_on_call fd_on_call) {f_on_layer : Addr} {fd_on_layer : FuncData} (T_on_layer : Fn K mg "on_layer" s_on_layer ["week", "layer", "time"] f_on_layer fd_on_layer) {f_in_spans : Addr} {fd_in_spans : FuncData} (T_in_spans : Fn K mg "in_spans" s_in_spans ["week", "spans", "time"] f_in_spans fd_in_spans) {f_next_break : Addr} {fd_next_break : FuncData} (T_next_break : Fn K mg "next_break" s_next_break ["week", "schedule", "time"] f_next_break fd_next_break) {f_layer_breaks : Addr} {fd_layer_breaks : FuncData} (T_layer_breaks : Fn K mg "_layer_breaks" s_layer_breaks ["week", "layer", "time"] f_layer_breaks fd_layer_breaks) {f_stretches : Addr} {fd_stretches : FuncData} (T_stretches : Fn K mg "stretches" s_stretches ["week", "schedule", "first", "last"] f_stretches fd_stretches) : FnOk P w K mg base CX0 4 f_stretches fd_stretches ["week", "schedule", "first", "last"] (spF K cm 4 stretches_f) := by
  have G_on_call : FnOk P w K mg base CX0 3 f_on_call fd_on_call ["week", "schedule", "time"] (spF K cm 3 on_call_f) := ok_on_call Bz T_on_layer T_in_spans T_on_call
  have G_next_break : FnOk P w K mg base CX0 2 f_next_break fd_next_break ["week", "schedule", "time"] (spF K cm 3 next_break_f) := ok_next_break Bz T_layer_breaks T_next_break
  refine mk_ok (k := 3) T_stretches.F sc_stretches fun cdv A outer s H E hr => ⟨_,
    (pss_cons (ps_set (i := 4) sc_stretches.nd rfl (.inl rfl) (pe_lst pa_nil))
    (pss_cons (ps_set (i := 5) sc_stretches.nd rfl (.inl rfl) (pv 2))
    (pss_cons (ps_while PassesOwn.never (pt_cmpR o_lt (pv 5) (pv 3) (nomark _)) (pss_cons (ps_set (i := 6) sc_stretches.nd rfl (.inl rfl) (pe_call (G_on_call) (hr.mono (by omega)) (by rfl) T_on_call.m T_on_call.F.kp T_on_call.b .nil (passE (E := E)) (pa_cons (pv 0) (pa_cons (pv 1) (pa_cons (pv 5) pa_nil)))))
    (pss_cons (ps_set (i := 7) sc_stretches.nd rfl (.inl rfl) (pe_call (G_next_break) (hr.mono (by omega)) (by rfl) T_next_break.m T_next_break.F.kp T_next_break.b .nil (passE (E := E)) (pa_cons (pv 0) (pa_cons (pv 1) (pa_cons (pv 5) pa_nil)))))
    (pss_cons (ps_if (PW.pt (pw_or (pt_cmpR op_isN (pv 7) pe_non (nomark _)) (pw_or1 (pt_cmpR o_gt (pv 7) (pv 3) (nomark _))))) (pss_one (ps_set (i := 7) sc_stretches.nd rfl (.inl rfl) (pv 3))) pss_nil)
    (pss_cons (ps_if (PW.pt (pw_and (pt_truth (pv 4) (fun _ => rfl)) (pw_and1 (pt_cmpR (o_eq hr.units) (pe_ix ix_seq (pe_ix ix_seq (pv 4) (pe_un un_neg pe_int) (fun _ _ => rfl)) pe_int (fun _ _ => rfl)) (pv 6) (nomark _))))) (pss_one (ps_asg (pe_tup (pa_cons (pe_ix ix_seq (pe_ix ix_seq (pv 4) (pe_un un_neg pe_int) (fun _ _ => rfl)) pe_int (fun _ _ => rfl)) (pa_cons (pv 7) (pa_cons (pv 6) pa_nil)))) (pg_sub (pv 4) (pe_un un_neg pe_int) set_list))) (pss_one (ps_expr (pe_bm PySem.F.plainAttrs_list PySem.F.slot_list_append PySem.F.type_list_append mt_append (pv 4) (pa_cons (pe_tup (pa_cons (pv 5) (pa_cons (pv 7) (pa_cons (pv 6) pa_nil)))) pa_nil)))))
    (pss_one (ps_set (i := 5) sc_stretches.nd rfl (.inl rfl) (pv 7))))))))
    (pss_one (ps_ret (pv 4)))))), ?_⟩
  exact fun ex => (sem_seq (sem_set (sem_lst sem_nilA))
    (sem_seq (sem_set sem_var)
    (sem_seq (sem_while (μ := fuel) (sem_tTest (sem_bin r2_lt sem_peek sem_peek)) (sem_kill (is := [6, 7]) (sem_seq (sem_set (sem_call (sem_conA sem_var (sem_conA sem_var (sem_conA sem_var sem_nilA)))))
    (sem_seq (sem_set (sem_call (sem_conA sem_var (sem_conA sem_var (sem_conA sem_var sem_nilA)))))
    (sem_seq (sem_if (sem_or (sem_tTest (sem_bin r2_isn sem_peek sem_non)) (sem_tTest (sem_bin r2_gt sem_peek sem_peek))) (sem_set sem_var) sem_skip)
    (sem_seq (sem_if (sem_and (sem_tru sem_peek) (sem_tTest (sem_bin r2_eq (SemE.look (sem_bin r2_ix (SemE.look (sem_bin r2_ix sem_peek (SemE.look (sem_neg sem_int)))) sem_int)) sem_peek))) (sem_frz (is := [6, 7]) (sem_setL (i := 4) (sem_tup (sem_conA (sem_bin r2_ix (SemE.look (sem_bin r2_ix sem_peek (SemE.look (sem_neg sem_int)))) sem_int) (sem_conA sem_var (sem_conA sem_var sem_nilA)))) (SemE.look (sem_neg sem_int)))) (sem_frz (is := [6, 7]) (sem_app (i := 4) (sem_tup (sem_conA sem_var (sem_conA sem_var (sem_conA sem_var sem_nilA)))))))
    (sem_frz (is := [7]) (sem_set sem_var))))))))
    (sem_retV (i := 4)))))
theorem ok_bounded (Bz : Bl K mg cm A_PeriodTooLong A_WatchError A_TooManyTimes) {t_MOST_PERIOD : Tok} (C_MOST_PERIOD : True ∧ mg "MOST_PERIOD" = some (.int 2000 t_MOST_PERIOD))  {f_bounded : Addr} {fd_bounded : FuncData} (T_bounded : Fn K mg "_bounded" s_bounded ["many"] f_bounded fd_bounded) : FnOk P w K mg base (L2.CX P w) 1 f_bounded fd_bounded ["many"] (spF K cm 1 bounded_f) := by
  refine mk_okX (k := 0) T_bounded.F sc_bounded fun cdv A outer s H E hr => ⟨_,
    (pss_cons (ps_if (pt_cmpR o_gt (pv 0) (pe_glob (v := .int 2000) (by rfl) C_MOST_PERIOD.2 ⟨_, rfl⟩) (nomark _)) (pss_one (ps_raise0 Bz.z0 (by rfl))) pss_nil)
    (pss_one (ps_ret (pv 0)))), ?_⟩
  exact fun ex => (sem_seq (sem_if (sem_tTest (sem_bin r2_gt sem_peek sem_int)) (sem_raise' Bz.m0) sem_skip)
    (sem_retV (i := 0)))
theorem ok_ever_on_call (Bz : Bl K mg cm A_PeriodTooLong A_WatchError A_TooManyTimes) {t_MOST_PERIOD : Tok} (C_MOST_PERIOD : True ∧ mg "MOST_PERIOD" = some (.int 2000 t_MOST_PERIOD)) (C_lcm : True ∧ mg "lcm" = some (.builtin "math.lcm")) {f_bounded : Addr} {fd_bounded : FuncData} (T_bounded : Fn K mg "_bounded" s_bounded ["many"] f_bounded fd_bounded) {f_period : Addr} {fd_period : FuncData} (T_period : Fn K mg "period" s_period ["week", "schedule"] f_period fd_period) {f_settled : Addr} {fd_settled : FuncData} (T_settled : Fn K mg "settled" s_settled ["schedule"] f_settled fd_settled) {f_stretches : Addr} {fd_stretches : FuncData} (T_stretches : Fn K mg "stretches" s_stretches ["week", "schedule", "first", "last"] f_stretches fd_stretches) {f_on_call : Addr} {fd_on_call : FuncData} (T_on_call : Fn K mg "on_call" s_on_call ["week", "schedule", "time"] f_on_call fd_on_call) {f_on_layer : Addr} {fd_on_layer : FuncData} (T_on_layer : Fn K mg "on_layer" s_on_layer ["week", "layer", "time"] f_on_layer fd_on_layer) {f_in_spans : Addr} {fd_in_spans : FuncData} (T_in_spans : Fn K mg "in_spans" s_in_spans ["week", "spans", "time"] f_in_spans fd_in_spans) {f_next_break : Addr} {fd_next_break : FuncData} (T_next_break : Fn K mg "next_break" s_next_break ["week", "schedule", "time"] f_next_break fd_next_break) {f_layer_breaks : Addr} {fd_layer_breaks : FuncData} (T_layer_breaks : Fn K mg "_layer_breaks" s_layer_breaks ["week", "layer", "time"] f_layer_breaks fd_layer_breaks) {f_ever_on_call : Addr} {fd_ever_on_call : FuncData} (T_ever_on_call : Fn K mg "ever_on_call" s_ever_on_call ["week", "schedule", "time"] f_ever_on_call fd_ever_on_call) : FnOk P w K mg base (L2.CX P w) 5 f_ever_on_call fd_ever_on_call ["week", "schedule", "time"] (spF K cm 3 ever_on_call_f) := by
  have G_bounded : FnOk P w K mg base (L2.CX P w) 1 f_bounded fd_bounded ["many"] (spF K cm 1 bounded_f) := ok_bounded Bz C_MOST_PERIOD  T_bounded
  have G_period : FnOk P w K mg base CX0 1 f_period fd_period ["week", "schedule"] (spF K cm 2 period_f) := ok_period Bz C_lcm  T_period
  have G_settled : FnOk P w K mg base CX0 1 f_settled fd_settled ["schedule"] (spF K cm 1 settled_f) := ok_settled Bz  T_settled
  have G_stretches : FnOk P w K mg base CX0 4 f_stretches fd_stretches ["week", "schedule", "first", "last"] (spF K cm 4 stretches_f) := ok_stretches Bz T_on_call T_on_layer T_in_spans T_next_break T_layer_breaks T_stretches
  refine mk_okX (k := 4) T_ever_on_call.F sc_ever_on_call fun cdv A outer s H E hr => ⟨_,
    (pss_cons (ps_set (i := 3) sc_ever_on_call.nd rfl (.inl rfl) (pe_call (G_bounded) (hr.mono (by omega)) (by rfl) T_bounded.m T_bounded.F.kp T_bounded.b .nil passX (pa_cons (pe_call (G_period) (hr.mono (by omega)) (by rfl) T_period.m T_period.F.kp T_period.b .nil (passE (E := E)) (pa_cons (pv 0) (pa_cons (pv 1) pa_nil))) pa_nil)))
    (pss_cons (ps_set (i := 4) sc_ever_on_call.nd rfl (.inl rfl) (pe_op o_add (pe_callB (cb_max2 rfl) (by rfl) Bz.max_ (by decide +kernel) (pa_cons (pv 2) (pa_cons (pe_call (G_settled) (hr.mono (by omega)) (by rfl) T_settled.m T_settled.F.kp T_settled.b .nil (passE (E := E)) (pa_cons (pv 1) pa_nil)) pa_nil))) (pv 3)))
    (pss_cons (ps_set (i := 5) sc_ever_on_call.nd rfl (.inr rfl) pe_dnewK)
    (pss_cons (ps_for (passes_of rfl) rfl (pi_seq (pe_call (G_stretches) (hr.mono (by omega)) (by rfl) T_stretches.m T_stretches.F.kp T_stretches.b .nil (passE (E := E)) (pa_cons (pv 0) (pa_cons (pv 1) (pa_cons (pv 2) (pa_cons (pv 4) pa_nil)))))) (pg_sq (by rfl) (pgs_cons (pg_name (i := 6) sc_ever_on_call.nd rfl (.inl rfl)) (pgs_cons (pg_name (i := 7) sc_ever_on_call.nd rfl (.inl rfl)) (pgs_cons (pg_name (i := 8) sc_ever_on_call.nd rfl (.inl rfl)) pgs_nil)))) (pss_one (ps_if (PW.pt (pw_and (pt_cmpR op_notN (pv 8) pe_non (nomark _)) (pw_and1 (pt_cmp (pc_dnotin (u1 hr) (pv 8) (pv 5)))))) (pss_one (ps_dput (u1 hr) (pv 5) (pv 8) (pv 6) (by rfl))) pss_nil)))
    (pss_one (ps_ret (pe_lock (pe_lc (own := [("person", 8)]) (g := (gName 8)) (tt := tYes) (te := (tTup (tCons (tVar 8) (tCons (tDGet (tVar 5) (tVar 8)) tNil)))) rfl sc_ever_on_call.nd (pi_keys (pv 5)) (blkOk_by (N := ["week", "schedule", "time", "many", "end", "found", "first", "last", "person"]) (sc := defScope s_ever_on_call) (by decide +kernel)) (fun _ _ _ _ _ => (pg_name (i := 8) sc_ever_on_call.nd rfl (.inl rfl))) (fun _ _ _ _ _ => pts_nil) (fun _ _ _ _ _ => (pe_tup (pa_cons (pv 8) (pa_cons (pe_dget (u1 hr) (pv 5) (pv 8) (fun _ _ => rfl)) pa_nil)))))))))))), ?_⟩
  exact fun ex => (sem_seq (sem_set (sem_call (sem_conA (sem_call (sem_conA sem_var (sem_conA sem_var sem_nilA))) sem_nilA)))
    (sem_seq (sem_set (sem_bin r2_add (SemE.look (sem_callB c1_max2 (sem_conB sem_peek (sem_conB (SemE.look (sem_call (sem_conA sem_var sem_nilA))) sem_nilB)))) sem_peek))
    (sem_seq (sem_set sem_dnew)
    (sem_seq (sem_frz (is := [4]) (sem_for (sem_seqI (sem_call (sem_conA sem_var (sem_conA sem_var (sem_conA sem_var (sem_conA sem_var sem_nilA)))))) (sem_gTup (n := 3) (sem_gsC (sem_gName (i := 6)) (sem_gsC (sem_gName (i := 7)) (sem_gsC (sem_gName (i := 8)) sem_gsN)))) (sem_kill (is := [6, 7, 8]) (sem_if (sem_and (sem_tTest (sem_bin r2_notn sem_peek sem_non)) (sem_tB (sem_notInD (i := 5) sem_peek))) (sem_put (i := 5) sem_var sem_peek) sem_skip))))
    (sem_ret (sem_lock (i := 5) (sem_lc (vs := [8]) (sem_keysI (i := 5)) (sem_gName (i := 8)) sem_yes (sem_tup (sem_conA sem_var (sem_conA (sem_dget (i := 5) sem_peek) sem_nilA))) (by decide))))))))
theorem ok_law_cell (Bz : Bl K mg cm A_PeriodTooLong A_WatchError A_TooManyTimes)  {f_law_cell : Addr} {fd_law_cell : FuncData} (T_law_cell : Fn K mg "_law_cell" s_law_cell ["_law_script", "_law_k"] f_law_cell fd_law_cell) : FnOk P w K mg base CX0 1 f_law_cell fd_law_cell ["_law_script", "_law_k"] (spF K cm 2 law_cell_f) := by
  refine mk_ok (k := 0) T_law_cell.F sc_law_cell fun cdv A outer s H E hr => ⟨_,
    (pss_cons (ps_if (pt_cmpR o_lt (pv 1) (pe_callB cb_len (by rfl) Bz.len_ (by decide +kernel) (pa_cons (pv 0) pa_nil)) (nomark _)) (pss_one (ps_ret (pe_callTy cb_int (by rfl) Bz.int_ (by decide +kernel) (pa_cons (pe_ix ix_seq (pv 0) (pv 1) (fun _ _ => rfl)) pa_nil)))) pss_nil)
    (pss_cons (ps_if (pt_cmpR o_gt (pe_callB cb_len (by rfl) Bz.len_ (by decide +kernel) (pa_cons (pv 0) pa_nil)) pe_int (nomark _)) (pss_one (ps_ret (pe_op o_add (pe_callTy cb_int (by rfl) Bz.int_ (by decide +kernel) (pa_cons (pe_ix ix_seq (pv 0) (pe_op op_mod (pe_callTy cb_int (by rfl) Bz.int_ (by decide +kernel) (pa_cons (pv 1) pa_nil)) (pe_callB cb_len (by rfl) Bz.len_ (by decide +kernel) (pa_cons (pv 0) pa_nil))) (fun _ _ => rfl)) pa_nil)) (pe_op o_mul pe_int (pv 1))))) pss_nil)
    (pss_one (ps_ret (pe_op o_mul pe_int (pv 1)))))), ?_⟩
  exact fun ex => (sem_seq (sem_if (sem_tTest (sem_bin r2_lt sem_peek (SemE.look (sem_callB c1_len (sem_conB sem_peek sem_nilB))))) (sem_ret (sem_callB c1_int (sem_conB (SemE.look (sem_bin r2_ix sem_peek sem_peek)) sem_nilB))) sem_skip)
    (sem_seq (sem_if (sem_tTest (sem_bin r2_gt (SemE.look (sem_callB c1_len (sem_conB sem_peek sem_nilB))) sem_int)) (sem_ret (sem_bin r2_add (SemE.look (sem_callB c1_int (sem_conB (SemE.look (sem_bin r2_ix sem_peek (SemE.look (sem_bin r2_mod (SemE.look (sem_callB c1_int (sem_conB sem_peek sem_nilB))) (SemE.look (sem_callB c1_len (sem_conB sem_peek sem_nilB))))))) sem_nilB))) (SemE.look (sem_bin r2_mulA sem_int sem_peek)))) sem_skip)
    (sem_ret (sem_bin r2_mulA sem_int sem_peek))))
theorem ok_law_draws (Bz : Bl K mg cm A_PeriodTooLong A_WatchError A_TooManyTimes)  {f_law_draws : Addr} {fd_law_draws : FuncData} (T_law_draws : Fn K mg "_law_draws" s_law_draws ["_law_cell_here", "_law_many"] f_law_draws fd_law_draws) : FnOk P w K mg base CX0 1 f_law_draws fd_law_draws ["_law_cell_here", "_law_many"] (spF K cm 2 law_draws_f) := by
  refine mk_ok (k := 0) T_law_draws.F sc_law_draws fun cdv A outer s H E hr => ⟨_,
    (pss_cons (ps_set (i := 2) sc_law_draws.nd rfl (.inl rfl) (pe_lst pa_nil))
    (pss_cons (ps_set (i := 3) sc_law_draws.nd rfl (.inl rfl) (pe_callTy cb_int (by rfl) Bz.int_ (by decide +kernel) (pa_cons (pv 0) pa_nil)))
    (pss_cons (ps_if (pt_cmpR o_ge (pv 3) (pe_op op_pow pe_int pe_int) (nomark _)) (pss_one (ps_for PassesOwn.never rfl (pi_range1 rfl Bz.range_ (pa_cons (pv 1) pa_nil)) (pg_name (i := 4) sc_law_draws.nd rfl (.inl rfl)) (pss_one (ps_if (pt_cmpR o_gt (pv 3) pe_int (nomark _)) (pss_cons (ps_expr (pe_bm PySem.F.plainAttrs_list PySem.F.slot_list_append PySem.F.type_list_append mt_append (pv 2) (pa_cons (pe_op op_mod (pe_callTy cb_int (by rfl) Bz.int_ (by decide +kernel) (pa_cons (pv 3) pa_nil)) pe_int) pa_nil)))
    (pss_one (ps_set (i := 3) sc_law_draws.nd rfl (.inl rfl) (pe_op op_fdiv (pv 3) pe_int)))) pss_nil)))) pss_nil)
    (pss_cons (ps_set (i := 5) sc_law_draws.nd rfl (.inl rfl) (pe_op op_mod (pe_callTy cb_int (by rfl) Bz.int_ (by decide +kernel) (pa_cons (pe_op o_add (pe_op o_mul (pe_callTy cb_int (by rfl) Bz.int_ (by decide +kernel) (pa_cons (pv 0) pa_nil)) pe_int) pe_int) pa_nil)) pe_int))
    (pss_cons (ps_for PassesOwn.never rfl (pi_range1 rfl Bz.range_ (pa_cons (pv 1) pa_nil)) (pg_name (i := 4) sc_law_draws.nd rfl (.inl rfl)) (pss_cons (ps_set (i := 5) sc_law_draws.nd rfl (.inl rfl) (pe_op op_mod (pe_callTy cb_int (by rfl) Bz.int_ (by decide +kernel) (pa_cons (pe_op o_add (pe_op o_add (pe_op o_mul (pv 5) pe_int) (pe_op o_mul (pv 4) pe_int)) pe_int) pa_nil)) pe_int))
    (pss_one (ps_if (pt_cmpR o_lt (pe_callB cb_len (by rfl) Bz.len_ (by decide +kernel) (pa_cons (pv 2) pa_nil)) (pv 1) (nomark _)) (pss_one (ps_expr (pe_bm PySem.F.plainAttrs_list PySem.F.slot_list_append PySem.F.type_list_append mt_append (pv 2) (pa_cons (pe_op op_mod (pe_callTy cb_int (by rfl) Bz.int_ (by decide +kernel) (pa_cons (pe_op op_mod (pe_callTy cb_int (by rfl) Bz.int_ (by decide +kernel) (pa_cons (pe_op o_add (pe_op o_mul (pv 5) pe_int) pe_int) pa_nil)) pe_int) pa_nil)) pe_int) pa_nil)))) pss_nil))))
    (pss_one (ps_ret (pv 2)))))))), ?_⟩
  exact fun ex => (sem_seq (sem_set (sem_lst sem_nilA))
    (sem_seq (sem_set (sem_callB c1_int (sem_conB sem_peek sem_nilB)))
    (sem_seq (sem_if (sem_tTest (sem_bin r2_ge sem_peek (SemE.look (sem_bin r2_pow sem_int sem_int)))) (sem_for (sem_rng1 (sem_conB sem_peek sem_nilB)) (sem_gName (i := 4)) (sem_kill (is := [4]) (sem_if (sem_tTest (sem_bin r2_gt sem_peek sem_int)) (sem_seq (sem_app (i := 2) (sem_bin r2_mod (SemE.look (sem_callB c1_int (sem_conB sem_peek sem_nilB))) sem_int))
    (sem_set (sem_bin r2_fdiv sem_peek sem_int))) sem_skip))) sem_skip)
    (sem_seq (sem_set (sem_bin r2_mod (SemE.look (sem_callB c1_int (sem_conB (SemE.look (sem_bin r2_add (SemE.look (sem_bin r2_mulA (SemE.look (sem_callB c1_int (sem_conB sem_peek sem_nilB))) sem_int)) sem_int)) sem_nilB))) sem_int))
    (sem_seq (sem_for (sem_rng1 (sem_conB sem_peek sem_nilB)) (sem_gName (i := 4)) (sem_kill (is := [4]) (sem_seq (sem_set (sem_bin r2_mod (SemE.look (sem_callB c1_int (sem_conB (SemE.look (sem_bin r2_add (SemE.look (sem_bin r2_add (SemE.look (sem_bin r2_mulA sem_peek sem_int)) (SemE.look (sem_bin r2_mulA sem_peek sem_int)))) sem_int)) sem_nilB))) sem_int))
    (sem_if (sem_tTest (sem_bin r2_lt (SemE.look (sem_callB c1_len (sem_conB sem_peek sem_nilB))) sem_peek)) (sem_app (i := 2) (sem_bin r2_mod (SemE.look (sem_callB c1_int (sem_conB (SemE.look (sem_bin r2_mod (SemE.look (sem_callB c1_int (sem_conB (SemE.look (sem_bin r2_add (SemE.look (sem_bin r2_mulA sem_peek sem_int)) sem_int)) sem_nilB))) sem_int)) sem_nilB))) sem_int)) sem_skip))))
    (sem_retV (i := 2)))))))
theorem ok_law_same_r (Bz : Bl K mg cm A_PeriodTooLong A_WatchError A_TooManyTimes)  {f_law_same : Addr} {fd_law_same : FuncData} (T_law_same : Fn K mg "_law_same" s_law_same ["_law_told_here", "_law_wanted"] f_law_same fd_law_same) : ∀ n : Nat, FnOk P w K mg base CX0 (0 + n + 1) f_law_same fd_law_same ["_law_told_here", "_law_wanted"] (spF K cm 2 (law_same_r n))
  | 0 => mk_bad (k := 0) T_law_same.F sc_law_same rfl
  | n + 1 => by

    have G_law_same := ok_law_same_r Bz  T_law_same n
    show FnOk P w K mg base CX0 (0 + n + 1 + 1) f_law_same fd_law_same ["_law_told_here", "_law_wanted"] (spF K cm 2 (runB 2 3 (law_same_b (law_same_r n))))
    refine mk_ok (k := 0 + n + 1) T_law_same.F sc_law_same fun cdv A outer s H E hr => ⟨_,
    (pss_cons (ps_if (pt_cmpR op_isN (pv 1) pe_non (nomark _)) (pss_one (ps_ret (pe_cmpR op_isN (pv 0) pe_non (nomark _)))) pss_nil)
    (pss_cons (ps_if (pt_truth (pe_callB call_isi (by rfl) Bz.isinstance_ (by decide +kernel) (pa_cons (pv 1) (pa_cons (pe_bltn (v := .ty "bool") (by rfl) Bz.bool_ (by decide +kernel) rfl) pa_nil))) (fun _ => rfl)) (pss_one (ps_ret (pe_and (pe_callB call_isi (by rfl) Bz.isinstance_ (by decide +kernel) (pa_cons (pv 0) (pa_cons (pe_bltn (v := .ty "bool") (by rfl) Bz.bool_ (by decide +kernel) rfl) pa_nil))) (pe_one (pe_cmpR (o_eq hr.units) (pv 0) (pv 1) (nomark _)))))) pss_nil)
    (pss_cons (ps_if (pt_truth (pe_callB call_isi (by rfl) Bz.isinstance_ (by decide +kernel) (pa_cons (pv 1) (pa_cons (pe_bltn (v := .ty "int") (by rfl) Bz.int_ (by decide +kernel) rfl) pa_nil))) (fun _ => rfl)) (pss_one (ps_ret (pe_and (pe_callB call_isi (by rfl) Bz.isinstance_ (by decide +kernel) (pa_cons (pv 0) (pa_cons (pe_bltn (v := .ty "int") (by rfl) Bz.int_ (by decide +kernel) rfl) pa_nil))) (pe_and (pe_notT (pe_callB call_isi (by rfl) Bz.isinstance_ (by decide +kernel) (pa_cons (pv 0) (pa_cons (pe_bltn (v := .ty "bool") (by rfl) Bz.bool_ (by decide +kernel) rfl) pa_nil)))) (pe_one (pe_cmpR (o_eq hr.units) (pv 0) (pv 1) (nomark _))))))) pss_nil)
    (pss_cons (ps_if (pt_truth (pe_callB call_isi (by rfl) Bz.isinstance_ (by decide +kernel) (pa_cons (pv 1) (pa_cons (pe_bltn (v := .ty "str") (by rfl) Bz.str_ (by decide +kernel) rfl) pa_nil))) (fun _ => rfl)) (pss_one (ps_ret (pe_and (pe_callB call_isi (by rfl) Bz.isinstance_ (by decide +kernel) (pa_cons (pv 0) (pa_cons (pe_bltn (v := .ty "str") (by rfl) Bz.str_ (by decide +kernel) rfl) pa_nil))) (pe_one (pe_cmpR (o_eq hr.units) (pv 0) (pv 1) (nomark _)))))) pss_nil)
    (pss_cons (ps_if (PW.pt (pw_and (pt_truth (pe_callB call_isi (by rfl) Bz.isinstance_ (by decide +kernel) (pa_cons (pv 1) (pa_cons (pe_bltn (v := .ty "tuple") (by rfl) Bz.tuple_ (by decide +kernel) rfl) pa_nil))) (fun _ => rfl)) (pw_and1 (pt_not (pt_truth (pe_callB call_isi (by rfl) Bz.isinstance_ (by decide +kernel) (pa_cons (pv 0) (pa_cons (pe_bltn (v := .ty "tuple") (by rfl) Bz.tuple_ (by decide +kernel) rfl) pa_nil))) (fun _ => rfl)))))) (pss_one (ps_ret pe_bl)) pss_nil)
    (pss_cons (ps_if (PW.pt (pw_and (pt_truth (pe_callB call_isi (by rfl) Bz.isinstance_ (by decide +kernel) (pa_cons (pv 1) (pa_cons (pe_bltn (v := .ty "list") (by rfl) Bz.list_ (by decide +kernel) rfl) pa_nil))) (fun _ => rfl)) (pw_and1 (pt_not (pt_truth (pe_callB call_isi (by rfl) Bz.isinstance_ (by decide +kernel) (pa_cons (pv 0) (pa_cons (pe_bltn (v := .ty "list") (by rfl) Bz.list_ (by decide +kernel) rfl) pa_nil))) (fun _ => rfl)))))) (pss_one (ps_ret pe_bl)) pss_nil)
    (pss_cons (ps_if (pt_cmpR (o_ne hr.units) (pe_callB cb_len (by rfl) Bz.len_ (by decide +kernel) (pa_cons (pv 0) pa_nil)) (pe_callB cb_len (by rfl) Bz.len_ (by decide +kernel) (pa_cons (pv 1) pa_nil)) (nomark _)) (pss_one (ps_ret pe_bl)) pss_nil)
    (pss_cons (ps_for PassesOwn.never rfl (pi_range1 rfl Bz.range_ (pa_cons (pe_callB cb_len (by rfl) Bz.len_ (by decide +kernel) (pa_cons (pv 1) pa_nil)) pa_nil)) (pg_name (i := 2) sc_law_same.nd rfl (.inl rfl)) (pss_one (ps_if (pt_not (pt_truth (pe_call G_law_same (hr.mono (by omega)) (by rfl) T_law_same.m T_law_same.F.kp T_law_same.b .nil (passE (E := E)) (pa_cons (pe_ix ix_seq (pv 0) (pv 2) (fun _ _ => rfl)) (pa_cons (pe_ix ix_seq (pv 1) (pv 2) (fun _ _ => rfl)) pa_nil))) (fun _ => rfl))) (pss_one (ps_ret pe_bl)) pss_nil)))
    (pss_one (ps_ret pe_bl)))))))))), ?_⟩
    exact fun ex => (sem_seq (sem_if (sem_tTest (sem_bin r2_isn sem_peek sem_non)) (sem_ret (sem_bin r2_isn sem_peek sem_non)) sem_skip)
    (sem_seq (sem_if (sem_tru (SemE.look (sem_isi (T := "bool") sem_peek))) (sem_ret (sem_andV (SemE.look (sem_isi (T := "bool") sem_peek)) (sem_bin r2_eq sem_peek sem_peek))) sem_skip)
    (sem_seq (sem_if (sem_tru (SemE.look (sem_isi (T := "int") sem_peek))) (sem_ret (sem_andV (SemE.look (sem_isi (T := "int") sem_peek)) (sem_andV (sem_notN (SemE.look (sem_isi (T := "bool") sem_peek))) (sem_bin r2_eq sem_peek sem_peek)))) sem_skip)
    (sem_seq (sem_if (sem_tru (SemE.look (sem_isi (T := "str") sem_peek))) (sem_ret (sem_andV (SemE.look (sem_isi (T := "str") sem_peek)) (sem_bin r2_eq sem_peek sem_peek))) sem_skip)
    (sem_seq (sem_if (sem_and (sem_tru (SemE.look (sem_isi (T := "tuple") sem_peek))) (sem_not (sem_tru (SemE.look (sem_isi (T := "tuple") sem_peek))))) (sem_ret sem_bl) sem_skip)
    (sem_seq (sem_if (sem_and (sem_tru (SemE.look (sem_isi (T := "list") sem_peek))) (sem_not (sem_tru (SemE.look (sem_isi (T := "list") sem_peek))))) (sem_ret sem_bl) sem_skip)
    (sem_seq (sem_if (sem_tTest (sem_bin r2_ne (SemE.look (sem_callB c1_len (sem_conB sem_peek sem_nilB))) (SemE.look (sem_callB c1_len (sem_conB sem_peek sem_nilB))))) (sem_ret sem_bl) sem_skip)
    (sem_seq (sem_for (sem_rng1 (sem_conB (SemE.look (sem_callB c1_len (sem_conB sem_peek sem_nilB))) sem_nilB)) (sem_gName (i := 2)) (sem_kill (is := [2]) (sem_if (sem_not (sem_tru (SemE.look (sem_call (sem_conA (sem_bin r2_ix sem_peek sem_peek) (sem_conA (sem_bin r2_ix sem_peek sem_peek) sem_nilA)))))) (sem_ret sem_bl) sem_skip)))
    (sem_ret sem_bl)))))))))
theorem ok_law_same (Bz : Bl K mg cm A_PeriodTooLong A_WatchError A_TooManyTimes)  {f_law_same : Addr} {fd_law_same : FuncData} (T_law_same : Fn K mg "_law_same" s_law_same ["_law_told_here", "_law_wanted"] f_law_same fd_law_same) : FnOk P w K mg base CX0 9 f_law_same fd_law_same ["_law_told_here", "_law_wanted"] (spF K cm 2 law_same_f) := by
  exact ok_law_same_r Bz  T_law_same 8
theorem ok_law_words (Bz : Bl K mg cm A_PeriodTooLong A_WatchError A_TooManyTimes)  {f_law_words : Addr} {fd_law_words : FuncData} (T_law_words : Fn K mg "_law_words" s_law_words ["_law_cell_here", "_law_many"] f_law_words fd_law_words) : FnOk P w K mg base CX0 1 f_law_words fd_law_words ["_law_cell_here", "_law_many"] (spF K cm 2 law_words_f) := by
  refine mk_ok (k := 0) T_law_words.F sc_law_words fun cdv A outer s H E hr => ⟨_,
    (pss_cons (ps_set (i := 2) sc_law_words.nd rfl (.inr rfl) pe_str)
    (pss_cons (ps_set (i := 3) sc_law_words.nd rfl (.inr rfl) (pe_op op_mod (pe_callTy cb_int (by rfl) Bz.int_ (by decide +kernel) (pa_cons (pe_op op_fdiv (pe_callTy cb_int (by rfl) Bz.int_ (by decide +kernel) (pa_cons (pv 0) pa_nil)) pe_int) pa_nil)) pe_int))
    (pss_one (ps_ret (pe_lc (own := [("_law_k", 4)]) (g := (gName 4)) (tt := tYes) (te := (tOp (rAddA K) (tOp (rAddA K) (tSl (rSl K) (tC (.str "xyz")) tNoPart (tPart (tVar 3))) (tOp (rIx K) (tVar 2) (tOp (rI (fun _ j => 0 < j) fun i j => .int (i % j)) (tCB rInt (tCons (tOp (rAddA K) (tCB rInt (tCons (tVar 0) tNil)) (tOp rMulA (tC (.int 3)) (tVar 4))) tNil)) (tC (.int 26))))) (tSl (rSl K) (tC (.str "xyzw")) (tPart (tVar 3)) tNoPart))) rfl sc_law_words.nd (pi_range1 rfl Bz.range_ (pa_cons (pv 1) pa_nil)) (blkOk_by (N := ["_law_cell_here", "_law_many", "_law_letters", "_law_place", "_law_k"]) (sc := defScope s_law_words) (by decide +kernel)) (fun _ _ _ _ _ => (pg_name (i := 4) sc_law_words.nd rfl (.inl rfl))) (fun _ _ _ _ _ => pts_nil) (fun _ _ _ _ _ => (pe_op o_add (pe_op o_add (pe_slice o_sl pe_str po_none (po_some (pv 3))) (pe_ix ix_seq (pv 2) (pe_op op_mod (pe_callTy cb_int (by rfl) Bz.int_ (by decide +kernel) (pa_cons (pe_op o_add (pe_callTy cb_int (by rfl) Bz.int_ (by decide +kernel) (pa_cons (pv 0) pa_nil)) (pe_op o_mul pe_int (pv 4))) pa_nil)) pe_int) (fun _ _ => rfl))) (pe_slice o_sl pe_str (po_some (pv 3)) po_none)))))))), ?_⟩
  exact fun ex => (sem_seq (sem_set sem_str)
    (sem_seq (sem_set (sem_bin r2_mod (SemE.look (sem_callB c1_int (sem_conB (SemE.look (sem_bin r2_fdiv (SemE.look (sem_callB c1_int (sem_conB sem_peek sem_nilB))) sem_int)) sem_nilB))) sem_int))
    (sem_ret (sem_lc (vs := [4]) (sem_rng1 (sem_conB sem_peek sem_nilB)) (sem_gName (i := 4)) sem_yes (sem_bin r2_add (SemE.look (sem_bin r2_add (SemE.look (sem_slice sem_str sem_noO (sem_someO sem_peek))) (SemE.look (sem_bin r2_ix sem_peek (SemE.look (sem_bin r2_mod (SemE.look (sem_callB c1_int (sem_conB (SemE.look (sem_bin r2_add (SemE.look (sem_callB c1_int (sem_conB sem_peek sem_nilB))) (SemE.look (sem_bin r2_mulA sem_int sem_peek)))) sem_nilB))) sem_int)))))) (SemE.look (sem_slice sem_str (sem_someO sem_peek) sem_noO))) (by decide)))))
theorem ok_law_layer (Bz : Bl K mg cm A_PeriodTooLong A_WatchError A_TooManyTimes) {f_law_draws : Addr} {fd_law_draws : FuncData} (T_law_draws : Fn K mg "_law_draws" s_law_draws ["_law_cell_here", "_law_many"] f_law_draws fd_law_draws) {f_law_layer : Addr} {fd_law_layer : FuncData} (T_law_layer : Fn K mg "_law_layer" s_law_layer ["_law_cell_here", "_law_crew", "_law_days", "_law_size"] f_law_layer fd_law_layer) : FnOk P w K mg base CX0 2 f_law_layer fd_law_layer ["_law_cell_here", "_law_crew", "_law_days", "_law_size"] (spF K cm 4 law_layer_f) := by
  have G_law_draws : FnOk P w K mg base CX0 1 f_law_draws fd_law_draws ["_law_cell_here", "_law_many"] (spF K cm 2 law_draws_f) := ok_law_draws Bz  T_law_draws
  refine mk_ok (k := 1) T_law_layer.F sc_law_layer fun cdv A outer s H E hr => ⟨_,
    (pss_cons (ps_set (i := 4) sc_law_layer.nd rfl (.inr rfl) (pe_call (G_law_draws) (hr.mono (by omega)) (by rfl) T_law_draws.m T_law_draws.F.kp T_law_draws.b .nil (passE (E := E)) (pa_cons (pv 0) (pa_cons pe_int pa_nil))))
    (pss_cons (ps_set (i := 5) sc_law_layer.nd rfl (.inl rfl) (pe_op o_add pe_int (pe_op op_mod (pe_callTy cb_int (by rfl) Bz.int_ (by decide +kernel) (pa_cons (pe_ix ix_seq (pv 4) pe_int (fun _ _ => rfl)) pa_nil)) pe_int)))
    (pss_cons (ps_set (i := 6) sc_law_layer.nd rfl (.inl rfl) (pe_op op_mod (pe_callTy cb_int (by rfl) Bz.int_ (by decide +kernel) (pa_cons (pe_ix ix_seq (pv 4) pe_int (fun _ _ => rfl)) pa_nil)) pe_int))
    (pss_cons (ps_set (i := 7) sc_law_layer.nd rfl (.inl rfl) (pe_op o_add pe_int (pe_op op_mod (pe_callTy cb_int (by rfl) Bz.int_ (by decide +kernel) (pa_cons (pe_ix ix_seq (pv 4) pe_int (fun _ _ => rfl)) pa_nil)) (pe_ix ix_seq (pe_lst (pa_cons pe_int (pa_cons pe_int (pa_cons pe_int pa_nil)))) (pv 3) (fun _ _ => rfl)))))
    (pss_cons (ps_set (i := 8) sc_law_layer.nd rfl (.inl rfl) (pe_op op_mod (pe_callTy cb_int (by rfl) Bz.int_ (by decide +kernel) (pa_cons (pe_ix ix_seq (pv 4) pe_int (fun _ _ => rfl)) pa_nil)) pe_int))
    (pss_cons (ps_if (pt_cmpR (o_eq hr.units) (pv 3) pe_int (nomark _)) (pss_cons (ps_set (i := 5) sc_law_layer.nd rfl (.inl rfl) (pe_op o_add pe_int (pe_op op_mod (pe_callTy cb_int (by rfl) Bz.int_ (by decide +kernel) (pa_cons (pe_ix ix_seq (pv 4) pe_int (fun _ _ => rfl)) pa_nil)) pe_int)))
    (pss_cons (ps_set (i := 6) sc_law_layer.nd rfl (.inl rfl) (pe_op op_mod (pe_callTy cb_int (by rfl) Bz.int_ (by decide +kernel) (pa_cons (pe_op o_add (pe_op o_mul (pe_ix ix_seq (pv 4) pe_int (fun _ _ => rfl)) pe_int) (pe_ix ix_seq (pv 4) pe_int (fun _ _ => rfl))) pa_nil)) pe_int))
    (pss_one (ps_set (i := 8) sc_law_layer.nd rfl (.inl rfl) (pe_op op_mod (pe_callTy cb_int (by rfl) Bz.int_ (by decide +kernel) (pa_cons (pe_ix ix_seq (pv 4) pe_int (fun _ _ => rfl)) pa_nil)) pe_int))))) pss_nil)
    (pss_cons (ps_set (i := 9) sc_law_layer.nd rfl (.inl rfl) (pe_lst pa_nil))
    (pss_cons (ps_for PassesOwn.never rfl (pi_range1 rfl Bz.range_ (pa_cons (pv 8) pa_nil)) (pg_name (i := 10) sc_law_layer.nd rfl (.inl rfl)) (pss_cons (ps_set (i := 11) sc_law_layer.nd rfl (.inl rfl) (pe_op op_mod (pe_callTy cb_int (by rfl) Bz.int_ (by decide +kernel) (pa_cons (pe_op o_add (pe_op o_mul (pe_ix ix_seq (pv 4) (pe_op o_add pe_int (pe_op o_mul pe_int (pv 10))) (fun _ _ => rfl)) pe_int) (pe_ix ix_seq (pv 4) (pe_op o_add pe_int (pe_op o_mul pe_int (pv 10))) (fun _ _ => rfl))) pa_nil)) (pv 2)))
    (pss_one (ps_expr (pe_bm PySem.F.plainAttrs_list PySem.F.slot_list_append PySem.F.type_list_append mt_append (pv 9) (pa_cons (pe_tup (pa_cons (pv 11) (pa_cons (pe_op o_add (pe_op o_add (pv 11) pe_int) (pe_op op_mod (pe_callTy cb_int (by rfl) Bz.int_ (by decide +kernel) (pa_cons (pe_op o_add (pe_op o_mul (pe_ix ix_seq (pv 4) (pe_op o_add pe_int (pe_op o_mul pe_int (pv 10))) (fun _ _ => rfl)) pe_int) (pe_ix ix_seq (pv 4) (pe_op o_add pe_int (pe_op o_mul pe_int (pv 10))) (fun _ _ => rfl))) pa_nil)) (pe_op op_sub (pv 2) (pv 11)))) pa_nil))) pa_nil))))))
    (pss_cons (ps_setLc (i := 12) (own := [("_law_k", 10)]) (g := (gName 10)) (tt := tYes) (te := (tOp (rIx K) (tVar 1) (tOp (rI (fun _ j => 0 < j) fun i j => .int (i % j)) (tCB rInt (tCons (tOp (rIx K) (tVar 4) (tOp (rAddA K) (tC (.int 6)) (tVar 10))) tNil)) (tCB (rLen K) (tCons (tVar 1) tNil))))) rfl sc_law_layer.nd rfl rfl (sw_true rfl rfl rfl (by decide +kernel)) (pi_range1 rfl Bz.range_ (pa_cons (pv 5) pa_nil)) (blkOk_by (N := ["_law_cell_here", "_law_crew", "_law_days", "_law_size", "_law_draws_here", "_law_many", "_law_start", "_law_shift", "_law_some", "_law_spans", "_law_k", "_law_first", "_law_members"]) (sc := defScope s_law_layer) (by decide +kernel)) (fun _ _ _ _ _ => (pg_name (i := 10) sc_law_layer.nd rfl (.inl rfl))) (fun _ _ _ _ _ => pts_nil) (fun _ _ _ _ _ => (pe_ix ix_seq (pv 1) (pe_op op_mod (pe_callTy cb_int (by rfl) Bz.int_ (by decide +kernel) (pa_cons (pe_ix ix_seq (pv 4) (pe_op o_add pe_int (pv 10)) (fun _ _ => rfl)) pa_nil)) (pe_callB cb_len (by rfl) Bz.len_ (by decide +kernel) (pa_cons (pv 1) pa_nil))) (fun _ _ => rfl))))
    (pss_one (ps_ret (pe_tup (pa_cons (pe_callTy cb_tup (by rfl) Bz.tuple_ (by decide +kernel) (pa_cons (pv 12) pa_nil)) (pa_cons (pv 6) (pa_cons (pv 7) (pa_cons (pe_callTy cb_tup (by rfl) Bz.tuple_ (by decide +kernel) (pa_cons (pv 9) pa_nil)) pa_nil)))))))))))))))), ?_⟩
  exact fun ex => (sem_seq (sem_set (sem_call (sem_conA sem_var (sem_conA sem_int sem_nilA))))
    (sem_seq (sem_set (sem_bin r2_add sem_int (SemE.look (sem_bin r2_mod (SemE.look (sem_callB c1_int (sem_conB (SemE.look (sem_bin r2_ix sem_peek sem_int)) sem_nilB))) sem_int))))
    (sem_seq (sem_set (sem_bin r2_mod (SemE.look (sem_callB c1_int (sem_conB (SemE.look (sem_bin r2_ix sem_peek sem_int)) sem_nilB))) sem_int))
    (sem_seq (sem_set (sem_bin r2_add sem_int (SemE.look (sem_bin r2_mod (SemE.look (sem_callB c1_int (sem_conB (SemE.look (sem_bin r2_ix sem_peek sem_int)) sem_nilB))) (SemE.look (sem_bin r2_ix (SemE.look (sem_lst (sem_conA sem_int (sem_conA sem_int (sem_conA sem_int sem_nilA))))) sem_peek))))))
    (sem_seq (sem_set (sem_bin r2_mod (SemE.look (sem_callB c1_int (sem_conB (SemE.look (sem_bin r2_ix sem_peek sem_int)) sem_nilB))) sem_int))
    (sem_seq (sem_if (sem_tTest (sem_bin r2_eq sem_peek sem_int)) (sem_seq (sem_set (sem_bin r2_add sem_int (SemE.look (sem_bin r2_mod (SemE.look (sem_callB c1_int (sem_conB (SemE.look (sem_bin r2_ix sem_peek sem_int)) sem_nilB))) sem_int))))
    (sem_seq (sem_set (sem_bin r2_mod (SemE.look (sem_callB c1_int (sem_conB (SemE.look (sem_bin r2_add (SemE.look (sem_bin r2_mulA (SemE.look (sem_bin r2_ix sem_peek sem_int)) sem_int)) (SemE.look (sem_bin r2_ix sem_peek sem_int)))) sem_nilB))) sem_int))
    (sem_set (sem_bin r2_mod (SemE.look (sem_callB c1_int (sem_conB (SemE.look (sem_bin r2_ix sem_peek sem_int)) sem_nilB))) sem_int)))) sem_skip)
    (sem_seq (sem_set (sem_lst sem_nilA))
    (sem_seq (sem_for (sem_rng1 (sem_conB sem_peek sem_nilB)) (sem_gName (i := 10)) (sem_kill (is := [10, 11]) (sem_seq (sem_set (sem_bin r2_mod (SemE.look (sem_callB c1_int (sem_conB (SemE.look (sem_bin r2_add (SemE.look (sem_bin r2_mulA (SemE.look (sem_bin r2_ix sem_peek (SemE.look (sem_bin r2_add sem_int (SemE.look (sem_bin r2_mulA sem_int sem_peek)))))) sem_int)) (SemE.look (sem_bin r2_ix sem_peek (SemE.look (sem_bin r2_add sem_int (SemE.look (sem_bin r2_mulA sem_int sem_peek)))))))) sem_nilB))) sem_peek))
    (sem_app (i := 9) (sem_tup (sem_conA sem_var (sem_conA (sem_bin r2_add (SemE.look (sem_bin r2_add sem_peek sem_int)) (SemE.look (sem_bin r2_mod (SemE.look (sem_callB c1_int (sem_conB (SemE.look (sem_bin r2_add (SemE.look (sem_bin r2_mulA (SemE.look (sem_bin r2_ix sem_peek (SemE.look (sem_bin r2_add sem_int (SemE.look (sem_bin r2_mulA sem_int sem_peek)))))) sem_int)) (SemE.look (sem_bin r2_ix sem_peek (SemE.look (sem_bin r2_add sem_int (SemE.look (sem_bin r2_mulA sem_int sem_peek)))))))) sem_nilB))) (SemE.look (sem_bin r2_sub sem_peek sem_peek))))) sem_nilA)))))))
    (sem_seq (sem_set (sem_lc (vs := [10]) (sem_rng1 (sem_conB sem_peek sem_nilB)) (sem_gName (i := 10)) sem_yes (sem_bin r2_ix sem_peek (SemE.look (sem_bin r2_mod (SemE.look (sem_callB c1_int (sem_conB (SemE.look (sem_bin r2_ix sem_peek (SemE.look (sem_bin r2_add sem_int sem_peek)))) sem_nilB))) (SemE.look (sem_callB c1_len (sem_conB sem_peek sem_nilB)))))) (by decide)))
    (sem_frz (is := [7]) (sem_ret (sem_tup (sem_conA (sem_callB c1_tup (sem_conB sem_peek sem_nilB)) (sem_conA sem_var (sem_conA sem_var (sem_conA (sem_callB c1_tup (sem_conB sem_peek sem_nilB)) sem_nilA))))))))))))))))
theorem ok_law_rota (Bz : Bl K mg cm A_PeriodTooLong A_WatchError A_TooManyTimes) {f_law_draws : Addr} {fd_law_draws : FuncData} (T_law_draws : Fn K mg "_law_draws" s_law_draws ["_law_cell_here", "_law_many"] f_law_draws fd_law_draws) {f_law_cell : Addr} {fd_law_cell : FuncData} (T_law_cell : Fn K mg "_law_cell" s_law_cell ["_law_script", "_law_k"] f_law_cell fd_law_cell) {f_law_layer : Addr} {fd_law_layer : FuncData} (T_law_layer : Fn K mg "_law_layer" s_law_layer ["_law_cell_here", "_law_crew", "_law_days", "_law_size"] f_law_layer fd_law_layer) {f_law_rota : Addr} {fd_law_rota : FuncData} (T_law_rota : Fn K mg "_law_rota" s_law_rota ["_law_script", "_law_at", "_law_name", "_law_crew", "_law_days", "_law_size"] f_law_rota fd_law_rota) : FnOk P w K mg base CX0 3 f_law_rota fd_law_rota ["_law_script", "_law_at", "_law_name", "_law_crew", "_law_days", "_law_size"] (spF K cm 6 law_rota_f) := by
  have G_law_draws : FnOk P w K mg base CX0 1 f_law_draws fd_law_draws ["_law_cell_here", "_law_many"] (spF K cm 2 law_draws_f) := ok_law_draws Bz  T_law_draws
  have G_law_cell : FnOk P w K mg base CX0 1 f_law_cell fd_law_cell ["_law_script", "_law_k"] (spF K cm 2 law_cell_f) := ok_law_cell Bz  T_law_cell
  have G_law_layer : FnOk P w K mg base CX0 2 f_law_layer fd_law_layer ["_law_cell_here", "_law_crew", "_law_days", "_law_size"] (spF K cm 4 law_layer_f) := ok_law_layer Bz T_law_draws T_law_layer
  refine mk_ok (k := 2) T_law_rota.F sc_law_rota fun cdv A outer s H E hr => ⟨_,
    (pss_cons (ps_set (i := 6) sc_law_rota.nd rfl (.inl rfl) (pe_call (G_law_draws) (hr.mono (by omega)) (by rfl) T_law_draws.m T_law_draws.F.kp T_law_draws.b .nil (passE (E := E)) (pa_cons (pe_call (G_law_cell) (hr.mono (by omega)) (by rfl) T_law_cell.m T_law_cell.F.kp T_law_cell.b .nil (passE (E := E)) (pa_cons (pv 0) (pa_cons (pv 1) pa_nil))) (pa_cons pe_int pa_nil))))
    (pss_cons (ps_set (i := 7) sc_law_rota.nd rfl (.inl rfl) (pe_ix ix_seq (pe_lst (pa_cons pe_int (pa_cons pe_int (pa_cons pe_int (pa_cons pe_int (pa_cons pe_int (pa_cons pe_int (pa_cons pe_int (pa_cons pe_int pa_nil))))))))) (pe_op op_mod (pe_callTy cb_int (by rfl) Bz.int_ (by decide +kernel) (pa_cons (pe_ix ix_seq (pv 6) pe_int (fun _ _ => rfl)) pa_nil)) pe_int) (fun _ _ => rfl)))
    (pss_cons (ps_set (i := 8) sc_law_rota.nd rfl (.inl rfl) (pe_op op_mod (pe_callTy cb_int (by rfl) Bz.int_ (by decide +kernel) (pa_cons (pe_ix ix_seq (pv 6) pe_int (fun _ _ => rfl)) pa_nil)) pe_int))
    (pss_cons (ps_if (pt_cmpR (o_eq hr.units) (pv 5) pe_int (nomark _)) (pss_cons (ps_set (i := 7) sc_law_rota.nd rfl (.inl rfl) (pe_op op_mod (pe_callTy cb_int (by rfl) Bz.int_ (by decide +kernel) (pa_cons (pe_ix ix_seq (pv 6) pe_int (fun _ _ => rfl)) pa_nil)) pe_int))
    (pss_one (ps_set (i := 8) sc_law_rota.nd rfl (.inl rfl) (pe_op op_mod (pe_callTy cb_int (by rfl) Bz.int_ (by decide +kernel) (pa_cons (pe_ix ix_seq (pv 6) pe_int (fun _ _ => rfl)) pa_nil)) pe_int)))) pss_nil)
    (pss_cons (ps_setLc (i := 10) (own := [("_law_k", 9)]) (g := (gName 9)) (tt := tYes) (te := (tCall (spF K cm 4 law_layer_f) [] E (tCons (tCall (spF K cm 2 law_cell_f) [] E (tCons (tVar 0) (tCons (tOp (rAddA K) (tOp (rAddA K) (tVar 1) (tC (.int 1))) (tVar 9)) tNil))) (tCons (tVar 3) (tCons (tVar 4) (tCons (tVar 5) tNil)))))) rfl sc_law_rota.nd rfl rfl (sw_true rfl rfl rfl (by decide +kernel)) (pi_range1 rfl Bz.range_ (pa_cons (pv 7) pa_nil)) (blkOk_by (N := ["_law_script", "_law_at", "_law_name", "_law_crew", "_law_days", "_law_size", "_law_draws_here", "_law_many", "_law_some", "_law_k", "_law_layers", "_law_standins", "_law_first"]) (sc := defScope s_law_rota) (by decide +kernel)) (fun _ _ _ _ _ => (pg_name (i := 9) sc_law_rota.nd rfl (.inl rfl))) (fun _ _ _ _ _ => pts_nil) (fun _ _ _ _ _ => (pe_call (G_law_layer) (hr.mono (by omega)) (by rfl) T_law_layer.m T_law_layer.F.kp T_law_layer.b .nil (passE (E := E)) (pa_cons (pe_call (G_law_cell) (hr.mono (by omega)) (by rfl) T_law_cell.m T_law_cell.F.kp T_law_cell.b .nil (passE (E := E)) (pa_cons (pv 0) (pa_cons (pe_op o_add (pe_op o_add (pv 1) pe_int) (pv 9)) pa_nil))) (pa_cons (pv 3) (pa_cons (pv 4) (pa_cons (pv 5) pa_nil)))))))
    (pss_cons (ps_set (i := 11) sc_law_rota.nd rfl (.inl rfl) (pe_lst pa_nil))
    (pss_cons (ps_for PassesOwn.never rfl (pi_range1 rfl Bz.range_ (pa_cons (pv 8) pa_nil)) (pg_name (i := 9) sc_law_rota.nd rfl (.inl rfl)) (pss_cons (ps_set (i := 12) sc_law_rota.nd rfl (.inl rfl) (pe_op op_mod (pe_callTy cb_int (by rfl) Bz.int_ (by decide +kernel) (pa_cons (pe_ix ix_seq (pv 6) (pe_op o_add pe_int (pe_op o_mul pe_int (pv 9))) (fun _ _ => rfl)) pa_nil)) pe_int))
    (pss_cons (ps_if (pt_cmpR (o_eq hr.units) (pv 5) pe_int (nomark _)) (pss_one (ps_set (i := 12) sc_law_rota.nd rfl (.inl rfl) (pe_op o_mul pe_int (pe_callTy cb_int (by rfl) Bz.int_ (by decide +kernel) (pa_cons (pe_ix ix_seq (pv 6) (pe_op o_add pe_int (pe_op o_mul pe_int (pv 9))) (fun _ _ => rfl)) pa_nil))))) pss_nil)
    (pss_one (ps_expr (pe_bm PySem.F.plainAttrs_list PySem.F.slot_list_append PySem.F.type_list_append mt_append (pv 11) (pa_cons (pe_tup (pa_cons (pv 12) (pa_cons (pe_op o_add (pe_op o_add (pv 12) pe_int) (pe_op op_mod (pe_callTy cb_int (by rfl) Bz.int_ (by decide +kernel) (pa_cons (pe_ix ix_seq (pv 6) (pe_op o_add pe_int (pe_op o_mul pe_int (pv 9))) (fun _ _ => rfl)) pa_nil)) pe_int)) (pa_cons (pe_ix ix_seq (pv 3) (pe_op op_mod (pe_callTy cb_int (by rfl) Bz.int_ (by decide +kernel) (pa_cons (pe_ix ix_seq (pv 6) (pe_op o_add pe_int (pe_op o_mul pe_int (pv 9))) (fun _ _ => rfl)) pa_nil)) (pe_callB cb_len (by rfl) Bz.len_ (by decide +kernel) (pa_cons (pv 3) pa_nil))) (fun _ _ => rfl)) pa_nil)))) pa_nil)))))))
    (pss_one (ps_ret (pe_tup (pa_cons (pv 2) (pa_cons (pe_callTy cb_tup (by rfl) Bz.tuple_ (by decide +kernel) (pa_cons (pv 10) pa_nil)) (pa_cons (pe_callTy cb_tup (by rfl) Bz.tuple_ (by decide +kernel) (pa_cons (pv 11) pa_nil)) pa_nil))))))))))))), ?_⟩
  exact fun ex => (sem_seq (sem_set (sem_call (sem_conA (sem_call (sem_conA sem_var (sem_conA sem_var sem_nilA))) (sem_conA sem_int sem_nilA))))
    (sem_seq (sem_set (sem_bin r2_ix (SemE.look (sem_lst (sem_conA sem_int (sem_conA sem_int (sem_conA sem_int (sem_conA sem_int (sem_conA sem_int (sem_conA sem_int (sem_conA sem_int (sem_conA sem_int sem_nilA)))))))))) (SemE.look (sem_bin r2_mod (SemE.look (sem_callB c1_int (sem_conB (SemE.look (sem_bin r2_ix sem_peek sem_int)) sem_nilB))) sem_int))))
    (sem_seq (sem_set (sem_bin r2_mod (SemE.look (sem_callB c1_int (sem_conB (SemE.look (sem_bin r2_ix sem_peek sem_int)) sem_nilB))) sem_int))
    (sem_seq (sem_if (sem_tTest (sem_bin r2_eq sem_peek sem_int)) (sem_seq (sem_set (sem_bin r2_mod (SemE.look (sem_callB c1_int (sem_conB (SemE.look (sem_bin r2_ix sem_peek sem_int)) sem_nilB))) sem_int))
    (sem_set (sem_bin r2_mod (SemE.look (sem_callB c1_int (sem_conB (SemE.look (sem_bin r2_ix sem_peek sem_int)) sem_nilB))) sem_int))) sem_skip)
    (sem_seq (sem_set (sem_lc (vs := [9]) (sem_rng1 (sem_conB sem_peek sem_nilB)) (sem_gName (i := 9)) sem_yes (sem_call (sem_conA (sem_call (sem_conA sem_var (sem_conA (sem_bin r2_add (SemE.look (sem_bin r2_add sem_peek sem_int)) sem_peek) sem_nilA))) (sem_conA sem_var (sem_conA sem_var (sem_conA sem_var sem_nilA))))) (by decide)))
    (sem_seq (sem_set (sem_lst sem_nilA))
    (sem_seq (sem_for (sem_rng1 (sem_conB sem_peek sem_nilB)) (sem_gName (i := 9)) (sem_kill (is := [9, 12]) (sem_seq (sem_set (sem_bin r2_mod (SemE.look (sem_callB c1_int (sem_conB (SemE.look (sem_bin r2_ix sem_peek (SemE.look (sem_bin r2_add sem_int (SemE.look (sem_bin r2_mulA sem_int sem_peek)))))) sem_nilB))) sem_int))
    (sem_seq (sem_if (sem_tTest (sem_bin r2_eq sem_peek sem_int)) (sem_set (sem_bin r2_mulA sem_int (SemE.look (sem_callB c1_int (sem_conB (SemE.look (sem_bin r2_ix sem_peek (SemE.look (sem_bin r2_add sem_int (SemE.look (sem_bin r2_mulA sem_int sem_peek)))))) sem_nilB))))) sem_skip)
    (sem_app (i := 11) (sem_tup (sem_conA sem_var (sem_conA (sem_bin r2_add (SemE.look (sem_bin r2_add sem_peek sem_int)) (SemE.look (sem_bin r2_mod (SemE.look (sem_callB c1_int (sem_conB (SemE.look (sem_bin r2_ix sem_peek (SemE.look (sem_bin r2_add sem_int (SemE.look (sem_bin r2_mulA sem_int sem_peek)))))) sem_nilB))) sem_int))) (sem_conA (sem_bin r2_ix sem_peek (SemE.look (sem_bin r2_mod (SemE.look (sem_callB c1_int (sem_conB (SemE.look (sem_bin r2_ix sem_peek (SemE.look (sem_bin r2_add sem_int (SemE.look (sem_bin r2_mulA sem_int sem_peek)))))) sem_nilB))) (SemE.look (sem_callB c1_len (sem_conB sem_peek sem_nilB)))))) sem_nilA)))))))))
    (sem_ret (sem_tup (sem_conA sem_var (sem_conA (sem_callB c1_tup (sem_conB sem_peek sem_nilB)) (sem_conA (sem_callB c1_tup (sem_conB sem_peek sem_nilB)) sem_nilA))))))))))))
theorem ok_law_edge (Bz : Bl K mg cm A_PeriodTooLong A_WatchError A_TooManyTimes) {f_law_draws : Addr} {fd_law_draws : FuncData} (T_law_draws : Fn K mg "_law_draws" s_law_draws ["_law_cell_here", "_law_many"] f_law_draws fd_law_draws) {f_law_cell : Addr} {fd_law_cell : FuncData} (T_law_cell : Fn K mg "_law_cell" s_law_cell ["_law_script", "_law_k"] f_law_cell fd_law_cell) {f_law_edge : Addr} {fd_law_edge : FuncData} (T_law_edge : Fn K mg "_law_edge" s_law_edge ["_law_script", "_law_at", "_law_name", "_law_crew", "_law_days"] f_law_edge fd_law_edge) : FnOk P w K mg base CX0 2 f_law_edge fd_law_edge ["_law_script", "_law_at", "_law_name", "_law_crew", "_law_days"] (spF K cm 5 law_edge_f) := by
  have G_law_draws : FnOk P w K mg base CX0 1 f_law_draws fd_law_draws ["_law_cell_here", "_law_many"] (spF K cm 2 law_draws_f) := ok_law_draws Bz  T_law_draws
  have G_law_cell : FnOk P w K mg base CX0 1 f_law_cell fd_law_cell ["_law_script", "_law_k"] (spF K cm 2 law_cell_f) := ok_law_cell Bz  T_law_cell
  refine mk_ok (k := 1) T_law_edge.F sc_law_edge fun cdv A outer s H E hr => ⟨_,
    (pss_cons (ps_set (i := 5) sc_law_edge.nd rfl (.inl rfl) (pe_call (G_law_draws) (hr.mono (by omega)) (by rfl) T_law_draws.m T_law_draws.F.kp T_law_draws.b .nil (passE (E := E)) (pa_cons (pe_call (G_law_cell) (hr.mono (by omega)) (by rfl) T_law_cell.m T_law_cell.F.kp T_law_cell.b .nil (passE (E := E)) (pa_cons (pv 0) (pa_cons (pv 1) pa_nil))) (pa_cons pe_int pa_nil))))
    (pss_cons (ps_set (i := 6) sc_law_edge.nd rfl (.inl rfl) (pe_lst pa_nil))
    (pss_cons (ps_for PassesOwn.never rfl (pi_range1 rfl Bz.range_ (pa_cons (pe_op o_add pe_int (pe_callTy cb_int (by rfl) Bz.int_ (by decide +kernel) (pa_cons (pe_cmpR (o_eq hr.units) (pe_op op_mod (pe_callTy cb_int (by rfl) Bz.int_ (by decide +kernel) (pa_cons (pe_ix ix_seq (pv 5) pe_int (fun _ _ => rfl)) pa_nil)) pe_int) pe_int (nomark _)) pa_nil))) pa_nil)) (pg_name (i := 7) sc_law_edge.nd rfl (.inl rfl)) (pss_cons (ps_set (i := 8) sc_law_edge.nd rfl (.inr rfl) (pe_slice o_sl (pv 5) (po_some (pe_op o_add pe_int (pe_op o_mul pe_int (pv 7)))) (po_some (pe_op o_add pe_int (pe_op o_mul pe_int (pv 7))))))
    (pss_cons (ps_set (i := 9) sc_law_edge.nd rfl (.inl rfl) (pe_op o_add pe_int (pe_op op_mod (pe_callTy cb_int (by rfl) Bz.int_ (by decide +kernel) (pa_cons (pe_ix ix_seq (pv 8) pe_int (fun _ _ => rfl)) pa_nil)) pe_int)))
    (pss_cons (ps_set (i := 10) sc_law_edge.nd rfl (.inl rfl) (pe_callB (cb_min2 rfl) (by rfl) Bz.min_ (by decide +kernel) (pa_cons pe_int (pa_cons (pe_callB (cb_max2 rfl) (by rfl) Bz.max_ (by decide +kernel) (pa_cons pe_int (pa_cons (pe_op op_sub (pe_op o_add (pe_op op_fdiv pe_int (pv 9)) (pe_op op_mod (pe_callTy cb_int (by rfl) Bz.int_ (by decide +kernel) (pa_cons (pe_ix ix_seq (pv 8) pe_int (fun _ _ => rfl)) pa_nil)) pe_int)) pe_int) pa_nil))) pa_nil))))
    (pss_cons (ps_if (pt_cmpR (o_eq hr.units) (pe_op op_mod (pe_callTy cb_int (by rfl) Bz.int_ (by decide +kernel) (pa_cons (pe_ix ix_seq (pv 8) pe_int (fun _ _ => rfl)) pa_nil)) pe_int) pe_int (nomark _)) (pss_one (ps_set (i := 10) sc_law_edge.nd rfl (.inl rfl) (pe_op o_add pe_int (pe_op op_mod (pe_callTy cb_int (by rfl) Bz.int_ (by decide +kernel) (pa_cons (pe_ix ix_seq (pv 8) pe_int (fun _ _ => rfl)) pa_nil)) pe_int)))) pss_nil)
    (pss_cons (ps_setLc (i := 11) (own := [("_law_j", 13)]) (g := (gName 13)) (tt := tYes) (te := (tOp (rIx K) (tVar 3) (tOp (rI (fun _ j => 0 < j) fun i j => .int (i % j)) (tCB rInt (tCons (tOp (rIx K) (tVar 8) (tOp (rAddA K) (tC (.int 4)) (tVar 13))) tNil)) (tCB (rLen K) (tCons (tVar 3) tNil))))) rfl sc_law_edge.nd rfl rfl (sw_true rfl rfl rfl (by decide +kernel)) (pi_range1 rfl Bz.range_ (pa_cons (pv 9) pa_nil)) (blkOk_by (N := ["_law_script", "_law_at", "_law_name", "_law_crew", "_law_days", "_law_draws_here", "_law_layers", "_law_k", "_law_part", "_law_many", "_law_shift", "_law_members", "_law_spans", "_law_j"]) (sc := defScope s_law_edge) (by decide +kernel)) (fun _ _ _ _ _ => (pg_name (i := 13) sc_law_edge.nd rfl (.inl rfl))) (fun _ _ _ _ _ => pts_nil) (fun _ _ _ _ _ => (pe_ix ix_seq (pv 3) (pe_op op_mod (pe_callTy cb_int (by rfl) Bz.int_ (by decide +kernel) (pa_cons (pe_ix ix_seq (pv 8) (pe_op o_add pe_int (pv 13)) (fun _ _ => rfl)) pa_nil)) (pe_callB cb_len (by rfl) Bz.len_ (by decide +kernel) (pa_cons (pv 3) pa_nil))) (fun _ _ => rfl))))
    (pss_cons (ps_set (i := 12) sc_law_edge.nd rfl (.inl rfl) (pe_lst pa_nil))
    (pss_cons (ps_if (pt_cmpR (o_eq hr.units) (pe_op op_mod (pe_callTy cb_int (by rfl) Bz.int_ (by decide +kernel) (pa_cons (pe_ix ix_seq (pv 8) pe_int (fun _ _ => rfl)) pa_nil)) pe_int) pe_int (nomark _)) (pss_one (ps_expr (pe_bm PySem.F.plainAttrs_list PySem.F.slot_list_append PySem.F.type_list_append mt_append (pv 12) (pa_cons (pe_tup (pa_cons (pe_op op_mod (pe_callTy cb_int (by rfl) Bz.int_ (by decide +kernel) (pa_cons (pe_ix ix_seq (pv 8) pe_int (fun _ _ => rfl)) pa_nil)) (pv 4)) (pa_cons (pv 4) pa_nil))) pa_nil)))) pss_nil)
    (pss_one (ps_expr (pe_bm PySem.F.plainAttrs_list PySem.F.slot_list_append PySem.F.type_list_append mt_append (pv 6) (pa_cons (pe_tup (pa_cons (pe_callTy cb_tup (by rfl) Bz.tuple_ (by decide +kernel) (pa_cons (pv 11) pa_nil)) (pa_cons (pe_op op_mod (pe_callTy cb_int (by rfl) Bz.int_ (by decide +kernel) (pa_cons (pe_ix ix_seq (pv 5) (pe_op o_add pe_int (pv 7)) (fun _ _ => rfl)) pa_nil)) pe_int) (pa_cons (pv 10) (pa_cons (pe_callTy cb_tup (by rfl) Bz.tuple_ (by decide +kernel) (pa_cons (pv 12) pa_nil)) pa_nil))))) pa_nil))))))))))))
    (pss_one (ps_ret (pe_tup (pa_cons (pv 2) (pa_cons (pe_callTy cb_tup (by rfl) Bz.tuple_ (by decide +kernel) (pa_cons (pv 6) pa_nil)) (pa_cons (pe_tup pa_nil) pa_nil))))))))), ?_⟩
  exact fun ex => (sem_seq (sem_set (sem_call (sem_conA (sem_call (sem_conA sem_var (sem_conA sem_var sem_nilA))) (sem_conA sem_int sem_nilA))))
    (sem_seq (sem_set (sem_lst sem_nilA))
    (sem_seq (sem_for (sem_rng1 (sem_conB (SemE.look (sem_bin r2_add sem_int (SemE.look (sem_callB c1_int (sem_conB (SemE.look (sem_bin r2_eq (SemE.look (sem_bin r2_mod (SemE.look (sem_callB c1_int (sem_conB (SemE.look (sem_bin r2_ix sem_peek sem_int)) sem_nilB))) sem_int)) sem_int)) sem_nilB))))) sem_nilB)) (sem_gName (i := 7)) (sem_kill (is := [7, 8, 9, 10, 11, 12]) (sem_seq (sem_set (sem_slice sem_peek (sem_someO (SemE.look (sem_bin r2_add sem_int (SemE.look (sem_bin r2_mulA sem_int sem_peek))))) (sem_someO (SemE.look (sem_bin r2_add sem_int (SemE.look (sem_bin r2_mulA sem_int sem_peek)))))))
    (sem_seq (sem_set (sem_bin r2_add sem_int (SemE.look (sem_bin r2_mod (SemE.look (sem_callB c1_int (sem_conB (SemE.look (sem_bin r2_ix sem_peek sem_int)) sem_nilB))) sem_int))))
    (sem_seq (sem_set (sem_callB c1_min2 (sem_conB sem_int (sem_conB (SemE.look (sem_callB c1_max2 (sem_conB sem_int (sem_conB (SemE.look (sem_bin r2_sub (SemE.look (sem_bin r2_add (SemE.look (sem_bin r2_fdiv sem_int sem_peek)) (SemE.look (sem_bin r2_mod (SemE.look (sem_callB c1_int (sem_conB (SemE.look (sem_bin r2_ix sem_peek sem_int)) sem_nilB))) sem_int)))) sem_int)) sem_nilB)))) sem_nilB))))
    (sem_seq (sem_if (sem_tTest (sem_bin r2_eq (SemE.look (sem_bin r2_mod (SemE.look (sem_callB c1_int (sem_conB (SemE.look (sem_bin r2_ix sem_peek sem_int)) sem_nilB))) sem_int)) sem_int)) (sem_set (sem_bin r2_add sem_int (SemE.look (sem_bin r2_mod (SemE.look (sem_callB c1_int (sem_conB (SemE.look (sem_bin r2_ix sem_peek sem_int)) sem_nilB))) sem_int)))) sem_skip)
    (sem_seq (sem_set (sem_lc (vs := [13]) (sem_rng1 (sem_conB sem_peek sem_nilB)) (sem_gName (i := 13)) sem_yes (sem_bin r2_ix sem_peek (SemE.look (sem_bin r2_mod (SemE.look (sem_callB c1_int (sem_conB (SemE.look (sem_bin r2_ix sem_peek (SemE.look (sem_bin r2_add sem_int sem_peek)))) sem_nilB))) (SemE.look (sem_callB c1_len (sem_conB sem_peek sem_nilB)))))) (by decide)))
    (sem_seq (sem_set (sem_lst sem_nilA))
    (sem_seq (sem_if (sem_tTest (sem_bin r2_eq (SemE.look (sem_bin r2_mod (SemE.look (sem_callB c1_int (sem_conB (SemE.look (sem_bin r2_ix sem_peek sem_int)) sem_nilB))) sem_int)) sem_int)) (sem_app (i := 12) (sem_tup (sem_conA (sem_bin r2_mod (SemE.look (sem_callB c1_int (sem_conB (SemE.look (sem_bin r2_ix sem_peek sem_int)) sem_nilB))) sem_peek) (sem_conA sem_var sem_nilA)))) sem_skip)
    (sem_frz (is := [10]) (sem_app (i := 6) (sem_tup (sem_conA (sem_callB c1_tup (sem_conB sem_peek sem_nilB)) (sem_conA (sem_bin r2_mod (SemE.look (sem_callB c1_int (sem_conB (SemE.look (sem_bin r2_ix sem_peek (SemE.look (sem_bin r2_add sem_int sem_peek)))) sem_nilB))) sem_int) (sem_conA sem_var (sem_conA (sem_callB c1_tup (sem_conB sem_peek sem_nilB)) sem_nilA))))))))))))))))
    (sem_ret (sem_tup (sem_conA sem_var (sem_conA (sem_callB c1_tup (sem_conB sem_peek sem_nilB)) (sem_conA (sem_tup sem_nilA) sem_nilA))))))))
theorem ok_law_world (Bz : Bl K mg cm A_PeriodTooLong A_WatchError A_TooManyTimes) {f_law_draws : Addr} {fd_law_draws : FuncData} (T_law_draws : Fn K mg "_law_draws" s_law_draws ["_law_cell_here", "_law_many"] f_law_draws fd_law_draws) {f_law_cell : Addr} {fd_law_cell : FuncData} (T_law_cell : Fn K mg "_law_cell" s_law_cell ["_law_script", "_law_k"] f_law_cell fd_law_cell) {f_law_words : Addr} {fd_law_words : FuncData} (T_law_words : Fn K mg "_law_words" s_law_words ["_law_cell_here", "_law_many"] f_law_words fd_law_words) {f_law_world : Addr} {fd_law_world : FuncData} (T_law_world : Fn K mg "_law_world" s_law_world ["_law_script"] f_law_world fd_law_world) : FnOk P w K mg base CX0 2 f_law_world fd_law_world ["_law_script"] (spF K cm 1 law_world_f) := by
  have G_law_draws : FnOk P w K mg base CX0 1 f_law_draws fd_law_draws ["_law_cell_here", "_law_many"] (spF K cm 2 law_draws_f) := ok_law_draws Bz  T_law_draws
  have G_law_cell : FnOk P w K mg base CX0 1 f_law_cell fd_law_cell ["_law_script", "_law_k"] (spF K cm 2 law_cell_f) := ok_law_cell Bz  T_law_cell
  have G_law_words : FnOk P w K mg base CX0 1 f_law_words fd_law_words ["_law_cell_here", "_law_many"] (spF K cm 2 law_words_f) := ok_law_words Bz  T_law_words
  refine mk_ok (k := 1) T_law_world.F sc_law_world fun cdv A outer s H E hr => ⟨_,
    (pss_cons (ps_set (i := 1) sc_law_world.nd rfl (.inl rfl) (pe_call (G_law_draws) (hr.mono (by omega)) (by rfl) T_law_draws.m T_law_draws.F.kp T_law_draws.b .nil (passE (E := E)) (pa_cons (pe_call (G_law_cell) (hr.mono (by omega)) (by rfl) T_law_cell.m T_law_cell.F.kp T_law_cell.b .nil (passE (E := E)) (pa_cons (pv 0) (pa_cons pe_int pa_nil))) (pa_cons pe_int pa_nil))))
    (pss_cons (ps_set (i := 2) sc_law_world.nd rfl (.inl rfl) (pe_cmpR (o_eq hr.units) (pe_op op_mod (pe_callTy cb_int (by rfl) Bz.int_ (by decide +kernel) (pa_cons (pe_ix ix_seq (pv 1) pe_int (fun _ _ => rfl)) pa_nil)) pe_int) pe_int (nomark _)))
    (pss_cons (ps_set (i := 3) sc_law_world.nd rfl (.inl rfl) (pe_op o_add pe_int (pe_op op_mod (pe_callTy cb_int (by rfl) Bz.int_ (by decide +kernel) (pa_cons (pe_ix ix_seq (pv 1) pe_int (fun _ _ => rfl)) pa_nil)) pe_int)))
    (pss_cons (ps_if (pt_truth (pv 2) (fun _ => rfl)) (pss_one (ps_set (i := 3) sc_law_world.nd rfl (.inl rfl) (pe_ix ix_seq (pe_lst (pa_cons pe_int (pa_cons pe_int (pa_cons pe_int (pa_cons pe_int (pa_cons (pe_op o_add pe_int (pe_op op_mod (pe_callTy cb_int (by rfl) Bz.int_ (by decide +kernel) (pa_cons (pe_op o_add (pe_op o_mul (pe_ix ix_seq (pv 1) pe_int (fun _ _ => rfl)) pe_int) (pe_ix ix_seq (pv 1) pe_int (fun _ _ => rfl))) pa_nil)) pe_int)) pa_nil)))))) (pe_op op_mod (pe_callTy cb_int (by rfl) Bz.int_ (by decide +kernel) (pa_cons (pe_ix ix_seq (pv 1) pe_int (fun _ _ => rfl)) pa_nil)) pe_int) (fun _ _ => rfl)))) pss_nil)
    (pss_cons (ps_set (i := 4) sc_law_world.nd rfl (.inl rfl) (pe_call (G_law_words) (hr.mono (by omega)) (by rfl) T_law_words.m T_law_words.F.kp T_law_words.b .nil (passE (E := E)) (pa_cons (pe_call (G_law_cell) (hr.mono (by omega)) (by rfl) T_law_cell.m T_law_cell.F.kp T_law_cell.b .nil (passE (E := E)) (pa_cons (pv 0) (pa_cons pe_int pa_nil))) (pa_cons (pe_op o_add pe_int (pe_op op_mod (pe_callTy cb_int (by rfl) Bz.int_ (by decide +kernel) (pa_cons (pe_ix ix_seq (pv 1) pe_int (fun _ _ => rfl)) pa_nil)) pe_int)) pa_nil))))
    (pss_one (ps_ret (pe_lst (pa_cons (pv 3) (pa_cons (pv 4) (pa_cons (pv 2) pa_nil))))))))))), ?_⟩
  exact fun ex => (sem_seq (sem_set (sem_call (sem_conA (sem_call (sem_conA sem_var (sem_conA sem_int sem_nilA))) (sem_conA sem_int sem_nilA))))
    (sem_seq (sem_set (sem_bin r2_eq (SemE.look (sem_bin r2_mod (SemE.look (sem_callB c1_int (sem_conB (SemE.look (sem_bin r2_ix sem_peek sem_int)) sem_nilB))) sem_int)) sem_int))
    (sem_seq (sem_set (sem_bin r2_add sem_int (SemE.look (sem_bin r2_mod (SemE.look (sem_callB c1_int (sem_conB (SemE.look (sem_bin r2_ix sem_peek sem_int)) sem_nilB))) sem_int))))
    (sem_seq (sem_if (sem_tru sem_peek) (sem_set (sem_bin r2_ix (SemE.look (sem_lst (sem_conA sem_int (sem_conA sem_int (sem_conA sem_int (sem_conA sem_int (sem_conA (sem_bin r2_add sem_int (SemE.look (sem_bin r2_mod (SemE.look (sem_callB c1_int (sem_conB (SemE.look (sem_bin r2_add (SemE.look (sem_bin r2_mulA (SemE.look (sem_bin r2_ix sem_peek sem_int)) sem_int)) (SemE.look (sem_bin r2_ix sem_peek sem_int)))) sem_nilB))) sem_int))) sem_nilA))))))) (SemE.look (sem_bin r2_mod (SemE.look (sem_callB c1_int (sem_conB (SemE.look (sem_bin r2_ix sem_peek sem_int)) sem_nilB))) sem_int)))) sem_skip)
    (sem_seq (sem_set (sem_call (sem_conA (sem_call (sem_conA sem_var (sem_conA sem_int sem_nilA))) (sem_conA (sem_bin r2_add sem_int (SemE.look (sem_bin r2_mod (SemE.look (sem_callB c1_int (sem_conB (SemE.look (sem_bin r2_ix sem_peek sem_int)) sem_nilB))) sem_int))) sem_nilA))))
    (sem_frz (is := [3, 4]) (sem_ret (sem_lst (sem_conA sem_var (sem_conA sem_var (sem_conA sem_var sem_nilA)))))))))))
theorem ok_law_any (Bz : Bl K mg cm A_PeriodTooLong A_WatchError A_TooManyTimes) {f_law_edge : Addr} {fd_law_edge : FuncData} (T_law_edge : Fn K mg "_law_edge" s_law_edge ["_law_script", "_law_at", "_law_name", "_law_crew", "_law_days"] f_law_edge fd_law_edge) {f_law_draws : Addr} {fd_law_draws : FuncData} (T_law_draws : Fn K mg "_law_draws" s_law_draws ["_law_cell_here", "_law_many"] f_law_draws fd_law_draws) {f_law_cell : Addr} {fd_law_cell : FuncData} (T_law_cell : Fn K mg "_law_cell" s_law_cell ["_law_script", "_law_k"] f_law_cell fd_law_cell) {f_law_rota : Addr} {fd_law_rota : FuncData} (T_law_rota : Fn K mg "_law_rota" s_law_rota ["_law_script", "_law_at", "_law_name", "_law_crew", "_law_days", "_law_size"] f_law_rota fd_law_rota) {f_law_layer : Addr} {fd_law_layer : FuncData} (T_law_layer : Fn K mg "_law_layer" s_law_layer ["_law_cell_here", "_law_crew", "_law_days", "_law_size"] f_law_layer fd_law_layer) {f_law_any : Addr} {fd_law_any : FuncData} (T_law_any : Fn K mg "_law_any" s_law_any ["_law_script", "_law_at", "_law_name", "_law_crew", "_law_days", "_law_edge_here"] f_law_any fd_law_any) : FnOk P w K mg base CX0 4 f_law_any fd_law_any ["_law_script", "_law_at", "_law_name", "_law_crew", "_law_days", "_law_edge_here"] (spF K cm 6 law_any_f) := by
  have G_law_edge : FnOk P w K mg base CX0 2 f_law_edge fd_law_edge ["_law_script", "_law_at", "_law_name", "_law_crew", "_law_days"] (spF K cm 5 law_edge_f) := ok_law_edge Bz T_law_draws T_law_cell T_law_edge
  have G_law_rota : FnOk P w K mg base CX0 3 f_law_rota fd_law_rota ["_law_script", "_law_at", "_law_name", "_law_crew", "_law_days", "_law_size"] (spF K cm 6 law_rota_f) := ok_law_rota Bz T_law_draws T_law_cell T_law_layer T_law_rota
  refine mk_ok (k := 3) T_law_any.F sc_law_any fun cdv A outer s H E hr => ⟨_,
    (pss_cons (ps_if (pt_truth (pv 5) (fun _ => rfl)) (pss_one (ps_ret (pe_call (G_law_edge) (hr.mono (by omega)) (by rfl) T_law_edge.m T_law_edge.F.kp T_law_edge.b .nil (passE (E := E)) (pa_cons (pv 0) (pa_cons (pv 1) (pa_cons (pv 2) (pa_cons (pv 3) (pa_cons (pv 4) pa_nil)))))))) pss_nil)
    (pss_one (ps_ret (pe_call (G_law_rota) (hr.mono (by omega)) (by rfl) T_law_rota.m T_law_rota.F.kp T_law_rota.b .nil (passE (E := E)) (pa_cons (pv 0) (pa_cons (pv 1) (pa_cons (pv 2) (pa_cons (pv 3) (pa_cons (pv 4) (pa_cons pe_int pa_nil)))))))))), ?_⟩
  exact fun ex => (sem_seq (sem_if (sem_tru sem_peek) (sem_ret (sem_call (sem_conA sem_var (sem_conA sem_var (sem_conA sem_var (sem_conA sem_var (sem_conA sem_var sem_nilA))))))) sem_skip)
    (sem_ret (sem_call (sem_conA sem_var (sem_conA sem_var (sem_conA sem_var (sem_conA sem_var (sem_conA sem_var (sem_conA sem_int sem_nilA)))))))))
theorem ok_law_inside (Bz : Bl K mg cm A_PeriodTooLong A_WatchError A_TooManyTimes)  {f_law_inside : Addr} {fd_law_inside : FuncData} (T_law_inside : Fn K mg "_law_inside" s_law_inside ["_law_days", "_law_spans", "_law_time_here"] f_law_inside fd_law_inside) : FnOk P w K mg base CX0 1 f_law_inside fd_law_inside ["_law_days", "_law_spans", "_law_time_here"] (spF K cm 3 law_inside_f) := by
  refine mk_ok (k := 0) T_law_inside.F sc_law_inside fun cdv A outer s H E hr => ⟨_,
    (pss_cons (ps_for PassesOwn.never rfl (pi_seq (pv 1)) (pg_sq (by rfl) (pgs_cons (pg_name (i := 3) sc_law_inside.nd rfl (.inl rfl)) (pgs_cons (pg_name (i := 4) sc_law_inside.nd rfl (.inl rfl)) pgs_nil))) (pss_one (ps_if (pt_chain o_le o_lt (pv 3) (pe_op op_mod (pe_callTy cb_int (by rfl) Bz.int_ (by decide +kernel) (pa_cons (pv 2) pa_nil)) (pv 0)) (pv 4)) (pss_one (ps_ret pe_bl)) pss_nil)))
    (pss_one (ps_ret pe_bl))), ?_⟩
  exact fun ex => (sem_seq (sem_for (sem_seqI sem_var) (sem_gTup (n := 2) (sem_gsC (sem_gName (i := 3)) (sem_gsC (sem_gName (i := 4)) sem_gsN))) (sem_kill (is := [3, 4]) (sem_if (sem_tTest (sem_chain r2_le r2_lt sem_peek (SemE.look (sem_bin r2_mod (SemE.look (sem_callB c1_int (sem_conB sem_peek sem_nilB))) sem_peek)) sem_peek)) (sem_ret sem_bl) sem_skip)))
    (sem_ret sem_bl))
theorem ok_law_member (Bz : Bl K mg cm A_PeriodTooLong A_WatchError A_TooManyTimes) {f_law_inside : Addr} {fd_law_inside : FuncData} (T_law_inside : Fn K mg "_law_inside" s_law_inside ["_law_days", "_law_spans", "_law_time_here"] f_law_inside fd_law_inside) {f_law_member : Addr} {fd_law_member : FuncData} (T_law_member : Fn K mg "_law_member" s_law_member ["_law_days", "_law_layer_here", "_law_time_here"] f_law_member fd_law_member) : FnOk P w K mg base CX0 2 f_law_member fd_law_member ["_law_days", "_law_layer_here", "_law_time_here"] (spF K cm 3 law_member_f) := by
  have G_law_inside : FnOk P w K mg base CX0 1 f_law_inside fd_law_inside ["_law_days", "_law_spans", "_law_time_here"] (spF K cm 3 law_inside_f) := ok_law_inside Bz  T_law_inside
  refine mk_ok (k := 1) T_law_member.F sc_law_member fun cdv A outer s H E hr => ⟨_,
    (pss_cons (ps_asg (pv 1) (pg_sq (by rfl) (pgs_cons (pg_name (i := 3) sc_law_member.nd rfl (.inl rfl)) (pgs_cons (pg_name (i := 4) sc_law_member.nd rfl (.inl rfl)) (pgs_cons (pg_name (i := 5) sc_law_member.nd rfl (.inl rfl)) (pgs_cons (pg_name (i := 6) sc_law_member.nd rfl (.inl rfl)) pgs_nil))))))
    (pss_cons (ps_if (pt_cmpR o_lt (pv 2) (pv 4) (nomark _)) (pss_one (ps_ret pe_non)) pss_nil)
    (pss_cons (ps_if (PW.pt (pw_and (pt_cmpR o_gt (pe_callB cb_len (by rfl) Bz.len_ (by decide +kernel) (pa_cons (pv 6) pa_nil)) pe_int (nomark _)) (pw_and1 (pt_not (pt_truth (pe_call (G_law_inside) (hr.mono (by omega)) (by rfl) T_law_inside.m T_law_inside.F.kp T_law_inside.b .nil (passE (E := E)) (pa_cons (pv 0) (pa_cons (pv 6) (pa_cons (pv 2) pa_nil)))) (fun _ => rfl)))))) (pss_one (ps_ret pe_non)) pss_nil)
    (pss_one (ps_ret (pe_ix ix_seq (pv 3) (pe_op op_mod (pe_callTy cb_int (by rfl) Bz.int_ (by decide +kernel) (pa_cons (pe_op op_fdiv (pe_op op_sub (pv 2) (pv 4)) (pv 5)) pa_nil)) (pe_callB cb_len (by rfl) Bz.len_ (by decide +kernel) (pa_cons (pv 3) pa_nil))) (fun _ _ => rfl))))))), ?_⟩
  exact fun ex => (sem_seq (sem_asgG sem_var (sem_gTup (n := 4) (sem_gsC (sem_gName (i := 3)) (sem_gsC (sem_gName (i := 4)) (sem_gsC (sem_gName (i := 5)) (sem_gsC (sem_gName (i := 6)) sem_gsN))))))
    (sem_seq (sem_if (sem_tTest (sem_bin r2_lt sem_peek sem_peek)) (sem_ret sem_non) sem_skip)
    (sem_seq (sem_if (sem_and (sem_tTest (sem_bin r2_gt (SemE.look (sem_callB c1_len (sem_conB sem_peek sem_nilB))) sem_int)) (sem_not (sem_tru (SemE.look (sem_call (sem_conA sem_var (sem_conA sem_var (sem_conA sem_var sem_nilA)))))))) (sem_ret sem_non) sem_skip)
    (sem_ret (sem_bin r2_ix sem_peek (SemE.look (sem_bin r2_mod (SemE.look (sem_callB c1_int (sem_conB (SemE.look (sem_bin r2_fdiv (SemE.look (sem_bin r2_sub sem_peek sem_peek)) sem_peek)) sem_nilB))) (SemE.look (sem_callB c1_len (sem_conB sem_peek sem_nilB))))))))))
theorem ok_law_on (Bz : Bl K mg cm A_PeriodTooLong A_WatchError A_TooManyTimes) {f_law_member : Addr} {fd_law_member : FuncData} (T_law_member : Fn K mg "_law_member" s_law_member ["_law_days", "_law_layer_here", "_law_time_here"] f_law_member fd_law_member) {f_law_inside : Addr} {fd_law_inside : FuncData} (T_law_inside : Fn K mg "_law_inside" s_law_inside ["_law_days", "_law_spans", "_law_time_here"] f_law_inside fd_law_inside) {f_law_on : Addr} {fd_law_on : FuncData} (T_law_on : Fn K mg "_law_on" s_law_on ["_law_days", "_law_rota_here", "_law_time_here"] f_law_on fd_law_on) : FnOk P w K mg base CX0 3 f_law_on fd_law_on ["_law_days", "_law_rota_here", "_law_time_here"] (spF K cm 3 law_on_f) := by
  have G_law_member : FnOk P w K mg base CX0 2 f_law_member fd_law_member ["_law_days", "_law_layer_here", "_law_time_here"] (spF K cm 3 law_member_f) := ok_law_member Bz T_law_inside T_law_member
  refine mk_ok (k := 2) T_law_on.F sc_law_on fun cdv A outer s H E hr => ⟨_,
    (pss_cons (ps_set (i := 3) sc_law_on.nd rfl (.inl rfl) pe_non)
    (pss_cons (ps_for PassesOwn.never rfl (pi_seq (pe_ix ix_seq (pv 1) pe_int (fun _ _ => rfl))) (pg_name (i := 4) sc_law_on.nd rfl (.inl rfl)) (pss_cons (ps_set (i := 5) sc_law_on.nd rfl (.inl rfl) (pe_call (G_law_member) (hr.mono (by omega)) (by rfl) T_law_member.m T_law_member.F.kp T_law_member.b .nil (passE (E := E)) (pa_cons (pv 0) (pa_cons (pv 4) (pa_cons (pv 2) pa_nil)))))
    (pss_one (ps_if (pt_cmpR op_notN (pv 5) pe_non (nomark _)) (pss_one (ps_set (i := 3) sc_law_on.nd rfl (.inl rfl) (pv 5))) pss_nil))))
    (pss_cons (ps_for PassesOwn.never rfl (pi_seq (pe_ix ix_seq (pv 1) pe_int (fun _ _ => rfl))) (pg_sq (by rfl) (pgs_cons (pg_name (i := 6) sc_law_on.nd rfl (.inl rfl)) (pgs_cons (pg_name (i := 7) sc_law_on.nd rfl (.inl rfl)) (pgs_cons (pg_name (i := 5) sc_law_on.nd rfl (.inl rfl)) pgs_nil)))) (pss_one (ps_if (pt_chain o_le o_lt (pv 6) (pv 2) (pv 7)) (pss_one (ps_set (i := 3) sc_law_on.nd rfl (.inl rfl) (pv 5))) pss_nil)))
    (pss_one (ps_ret (pv 3)))))), ?_⟩
  exact fun ex => (sem_seq (sem_set sem_non)
    (sem_seq (sem_for (sem_seqI (sem_bin r2_ix sem_peek sem_int)) (sem_gName (i := 4)) (sem_kill (is := [4, 5]) (sem_seq (sem_set (sem_call (sem_conA sem_var (sem_conA sem_var (sem_conA sem_var sem_nilA)))))
    (sem_if (sem_tTest (sem_bin r2_notn sem_peek sem_non)) (sem_frz (is := [5]) (sem_set sem_var)) sem_skip))))
    (sem_seq (sem_for (sem_seqI (sem_bin r2_ix sem_peek sem_int)) (sem_gTup (n := 3) (sem_gsC (sem_gName (i := 6)) (sem_gsC (sem_gName (i := 7)) (sem_gsC (sem_gName (i := 5)) sem_gsN)))) (sem_kill (is := [6, 7]) (sem_if (sem_tTest (sem_chain r2_le r2_lt sem_peek sem_peek sem_peek)) (sem_frz (is := [5]) (sem_set sem_var)) sem_skip)))
    (sem_retV (i := 3)))))
theorem ok_law_lcm (Bz : Bl K mg cm A_PeriodTooLong A_WatchError A_TooManyTimes)  {f_law_lcm : Addr} {fd_law_lcm : FuncData} (T_law_lcm : Fn K mg "_law_lcm" s_law_lcm ["_law_one", "_law_other"] f_law_lcm fd_law_lcm) : FnOk P w K mg base CX0 1 f_law_lcm fd_law_lcm ["_law_one", "_law_other"] (spF K cm 2 law_lcm_f) := by
  refine mk_ok (k := 0) T_law_lcm.F sc_law_lcm fun cdv A outer s H E hr => ⟨_,
    (pss_cons (ps_set (i := 2) sc_law_lcm.nd rfl (.inl rfl) (pv 0))
    (pss_cons (ps_for PassesOwn.never rfl (pi_range1 rfl Bz.range_ (pa_cons (pv 1) pa_nil)) (pg_name (i := 3) sc_law_lcm.nd rfl (.inl rfl)) (pss_cons (ps_if (pt_cmpR (o_eq hr.units) (pe_op op_mod (pe_callTy cb_int (by rfl) Bz.int_ (by decide +kernel) (pa_cons (pv 2) pa_nil)) (pv 1)) pe_int (nomark _)) (pss_one (ps_ret (pv 2))) pss_nil)
    (pss_one (ps_set (i := 2) sc_law_lcm.nd rfl (.inl rfl) (pe_op o_add (pv 2) (pv 0))))))
    (pss_one (ps_ret (pv 2))))), ?_⟩
  exact fun ex => (sem_seq (sem_set sem_var)
    (sem_seq (sem_for (sem_rng1 (sem_conB sem_peek sem_nilB)) (sem_gName (i := 3)) (sem_kill (is := [3]) (sem_seq (sem_if (sem_tTest (sem_bin r2_eq (SemE.look (sem_bin r2_mod (SemE.look (sem_callB c1_int (sem_conB sem_peek sem_nilB))) sem_peek)) sem_int)) (sem_retV (i := 2)) sem_skip)
    (sem_set (sem_bin r2_add sem_peek sem_peek)))))
    (sem_retV (i := 2))))
theorem ok_law_period (Bz : Bl K mg cm A_PeriodTooLong A_WatchError A_TooManyTimes) {f_law_lcm : Addr} {fd_law_lcm : FuncData} (T_law_lcm : Fn K mg "_law_lcm" s_law_lcm ["_law_one", "_law_other"] f_law_lcm fd_law_lcm) {f_law_period : Addr} {fd_law_period : FuncData} (T_law_period : Fn K mg "_law_period" s_law_period ["_law_days", "_law_rota_here"] f_law_period fd_law_period) : FnOk P w K mg base CX0 2 f_law_period fd_law_period ["_law_days", "_law_rota_here"] (spF K cm 2 law_period_f) := by
  have G_law_lcm : FnOk P w K mg base CX0 1 f_law_lcm fd_law_lcm ["_law_one", "_law_other"] (spF K cm 2 law_lcm_f) := ok_law_lcm Bz  T_law_lcm
  refine mk_ok (k := 1) T_law_period.F sc_law_period fun cdv A outer s H E hr => ⟨_,
    (pss_cons (ps_set (i := 2) sc_law_period.nd rfl (.inl rfl) pe_int)
    (pss_cons (ps_for PassesOwn.never rfl (pi_seq (pe_ix ix_seq (pv 1) pe_int (fun _ _ => rfl))) (pg_sq (by rfl) (pgs_cons (pg_name (i := 3) sc_law_period.nd rfl (.inl rfl)) (pgs_cons (pg_name (i := 4) sc_law_period.nd rfl (.inl rfl)) (pgs_cons (pg_name (i := 5) sc_law_period.nd rfl (.inl rfl)) (pgs_cons (pg_name (i := 6) sc_law_period.nd rfl (.inl rfl)) pgs_nil))))) (pss_cons (ps_if (pt_cmpR o_gt (pe_callB cb_len (by rfl) Bz.len_ (by decide +kernel) (pa_cons (pv 3) pa_nil)) pe_int (nomark _)) (pss_one (ps_set (i := 2) sc_law_period.nd rfl (.inl rfl) (pe_call (G_law_lcm) (hr.mono (by omega)) (by rfl) T_law_lcm.m T_law_lcm.F.kp T_law_lcm.b .nil (passE (E := E)) (pa_cons (pv 2) (pa_cons (pe_op o_mul (pv 5) (pe_callB cb_len (by rfl) Bz.len_ (by decide +kernel) (pa_cons (pv 3) pa_nil))) pa_nil))))) pss_nil)
    (pss_one (ps_if (pt_cmpR o_gt (pe_callB cb_len (by rfl) Bz.len_ (by decide +kernel) (pa_cons (pv 6) pa_nil)) pe_int (nomark _)) (pss_one (ps_set (i := 2) sc_law_period.nd rfl (.inl rfl) (pe_call (G_law_lcm) (hr.mono (by omega)) (by rfl) T_law_lcm.m T_law_lcm.F.kp T_law_lcm.b .nil (passE (E := E)) (pa_cons (pv 2) (pa_cons (pv 0) pa_nil))))) pss_nil))))
    (pss_one (ps_ret (pv 2))))), ?_⟩
  exact fun ex => (sem_seq (sem_set sem_int)
    (sem_seq (sem_for (sem_seqI (sem_bin r2_ix sem_peek sem_int)) (sem_gTup (n := 4) (sem_gsC (sem_gName (i := 3)) (sem_gsC (sem_gName (i := 4)) (sem_gsC (sem_gName (i := 5)) (sem_gsC (sem_gName (i := 6)) sem_gsN))))) (sem_kill (is := [3, 4, 5, 6]) (sem_seq (sem_if (sem_tTest (sem_bin r2_gt (SemE.look (sem_callB c1_len (sem_conB sem_peek sem_nilB))) sem_int)) (sem_frz (is := [2]) (sem_set (sem_call (sem_conA sem_var (sem_conA (sem_bin r2_mulA sem_peek (SemE.look (sem_callB c1_len (sem_conB sem_peek sem_nilB)))) sem_nilA))))) sem_skip)
    (sem_if (sem_tTest (sem_bin r2_gt (SemE.look (sem_callB c1_len (sem_conB sem_peek sem_nilB))) sem_int)) (sem_frz (is := [2]) (sem_set (sem_call (sem_conA sem_var (sem_conA sem_var sem_nilA))))) sem_skip))))
    (sem_retV (i := 2))))
theorem ok_law_settled (Bz : Bl K mg cm A_PeriodTooLong A_WatchError A_TooManyTimes)  {f_law_settled : Addr} {fd_law_settled : FuncData} (T_law_settled : Fn K mg "_law_settled" s_law_settled ["_law_rota_here"] f_law_settled fd_law_settled) : FnOk P w K mg base CX0 1 f_law_settled fd_law_settled ["_law_rota_here"] (spF K cm 1 law_settled_f) := by
  refine mk_ok (k := 0) T_law_settled.F sc_law_settled fun cdv A outer s H E hr => ⟨_,
    (pss_cons (ps_set (i := 1) sc_law_settled.nd rfl (.inl rfl) pe_int)
    (pss_cons (ps_for PassesOwn.never rfl (pi_seq (pe_ix ix_seq (pv 0) pe_int (fun _ _ => rfl))) (pg_name (i := 2) sc_law_settled.nd rfl (.inl rfl)) (pss_one (ps_set (i := 1) sc_law_settled.nd rfl (.inl rfl) (pe_callB (cb_max2 rfl) (by rfl) Bz.max_ (by decide +kernel) (pa_cons (pv 1) (pa_cons (pe_ix ix_seq (pv 2) pe_int (fun _ _ => rfl)) pa_nil))))))
    (pss_cons (ps_for PassesOwn.never rfl (pi_seq (pe_ix ix_seq (pv 0) pe_int (fun _ _ => rfl))) (pg_name (i := 3) sc_law_settled.nd rfl (.inl rfl)) (pss_one (ps_set (i := 1) sc_law_settled.nd rfl (.inl rfl) (pe_callB (cb_max2 rfl) (by rfl) Bz.max_ (by decide +kernel) (pa_cons (pv 1) (pa_cons (pe_ix ix_seq (pv 3) pe_int (fun _ _ => rfl)) pa_nil))))))
    (pss_one (ps_ret (pv 1)))))), ?_⟩
  exact fun ex => (sem_seq (sem_set sem_int)
    (sem_seq (sem_for (sem_seqI (sem_bin r2_ix sem_peek sem_int)) (sem_gName (i := 2)) (sem_kill (is := [2]) (sem_set (sem_callB c1_max2 (sem_conB sem_peek (sem_conB (SemE.look (sem_bin r2_ix sem_peek sem_int)) sem_nilB))))))
    (sem_seq (sem_for (sem_seqI (sem_bin r2_ix sem_peek sem_int)) (sem_gName (i := 3)) (sem_kill (is := [3]) (sem_set (sem_callB c1_max2 (sem_conB sem_peek (sem_conB (SemE.look (sem_bin r2_ix sem_peek sem_int)) sem_nilB))))))
    (sem_retV (i := 1)))))
theorem ok_law_time (Bz : Bl K mg cm A_PeriodTooLong A_WatchError A_TooManyTimes) {f_law_draws : Addr} {fd_law_draws : FuncData} (T_law_draws : Fn K mg "_law_draws" s_law_draws ["_law_cell_here", "_law_many"] f_law_draws fd_law_draws) {f_law_time : Addr} {fd_law_time : FuncData} (T_law_time : Fn K mg "_law_time" s_law_time ["_law_cell_here"] f_law_time fd_law_time) : FnOk P w K mg base CX0 2 f_law_time fd_law_time ["_law_cell_here"] (spF K cm 1 law_time_f) := by
  have G_law_draws : FnOk P w K mg base CX0 1 f_law_draws fd_law_draws ["_law_cell_here", "_law_many"] (spF K cm 2 law_draws_f) := ok_law_draws Bz  T_law_draws
  refine mk_ok (k := 1) T_law_time.F sc_law_time fun cdv A outer s H E hr => ⟨_,
    (pss_cons (ps_set (i := 1) sc_law_time.nd rfl (.inl rfl) (pe_call (G_law_draws) (hr.mono (by omega)) (by rfl) T_law_draws.m T_law_draws.F.kp T_law_draws.b .nil (passE (E := E)) (pa_cons (pv 0) (pa_cons pe_int pa_nil))))
    (pss_cons (ps_if (pt_cmpR (o_eq hr.units) (pe_op op_mod (pe_callTy cb_int (by rfl) Bz.int_ (by decide +kernel) (pa_cons (pe_ix ix_seq (pv 1) pe_int (fun _ _ => rfl)) pa_nil)) pe_int) pe_int (nomark _)) (pss_one (ps_ret (pe_op o_add (pe_op o_add (pe_op o_mul (pe_ix ix_seq (pv 1) pe_int (fun _ _ => rfl)) (pe_op op_pow pe_int pe_int)) (pe_op o_mul (pe_ix ix_seq (pv 1) pe_int (fun _ _ => rfl)) pe_int)) (pe_ix ix_seq (pv 1) pe_int (fun _ _ => rfl))))) pss_nil)
    (pss_one (ps_ret (pe_op op_mod (pe_callTy cb_int (by rfl) Bz.int_ (by decide +kernel) (pa_cons (pe_ix ix_seq (pv 1) pe_int (fun _ _ => rfl)) pa_nil)) pe_int))))), ?_⟩
  exact fun ex => (sem_seq (sem_set (sem_call (sem_conA sem_var (sem_conA sem_int sem_nilA))))
    (sem_seq (sem_if (sem_tTest (sem_bin r2_eq (SemE.look (sem_bin r2_mod (SemE.look (sem_callB c1_int (sem_conB (SemE.look (sem_bin r2_ix sem_peek sem_int)) sem_nilB))) sem_int)) sem_int)) (sem_ret (sem_bin r2_add (SemE.look (sem_bin r2_add (SemE.look (sem_bin r2_mulA (SemE.look (sem_bin r2_ix sem_peek sem_int)) (SemE.look (sem_bin r2_pow sem_int sem_int)))) (SemE.look (sem_bin r2_mulA (SemE.look (sem_bin r2_ix sem_peek sem_int)) sem_int)))) (SemE.look (sem_bin r2_ix sem_peek sem_int)))) sem_skip)
    (sem_ret (sem_bin r2_mod (SemE.look (sem_callB c1_int (sem_conB (SemE.look (sem_bin r2_ix sem_peek sem_int)) sem_nilB))) sem_int))))
theorem ok_law_firsts (Bz : Bl K mg cm A_PeriodTooLong A_WatchError A_TooManyTimes) {f_law_settled : Addr} {fd_law_settled : FuncData} (T_law_settled : Fn K mg "_law_settled" s_law_settled ["_law_rota_here"] f_law_settled fd_law_settled) {f_law_period : Addr} {fd_law_period : FuncData} (T_law_period : Fn K mg "_law_period" s_law_period ["_law_days", "_law_rota_here"] f_law_period fd_law_period) {f_law_lcm : Addr} {fd_law_lcm : FuncData} (T_law_lcm : Fn K mg "_law_lcm" s_law_lcm ["_law_one", "_law_other"] f_law_lcm fd_law_lcm) {f_law_on : Addr} {fd_law_on : FuncData} (T_law_on : Fn K mg "_law_on" s_law_on ["_law_days", "_law_rota_here", "_law_time_here"] f_law_on fd_law_on) {f_law_member : Addr} {fd_law_member : FuncData} (T_law_member : Fn K mg "_law_member" s_law_member ["_law_days", "_law_layer_here", "_law_time_here"] f_law_member fd_law_member) {f_law_inside : Addr} {fd_law_inside : FuncData} (T_law_inside : Fn K mg "_law_inside" s_law_inside ["_law_days", "_law_spans", "_law_time_here"] f_law_inside fd_law_inside) {f_law_firsts : Addr} {fd_law_firsts : FuncData} (T_law_firsts : Fn K mg "_law_firsts" s_law_firsts ["_law_days", "_law_rota_here", "_law_time_here"] f_law_firsts fd_law_firsts) : FnOk P w K mg base CX0 4 f_law_firsts fd_law_firsts ["_law_days", "_law_rota_here", "_law_time_here"] (spF K cm 3 law_firsts_f) := by
  have G_law_settled : FnOk P w K mg base CX0 1 f_law_settled fd_law_settled ["_law_rota_here"] (spF K cm 1 law_settled_f) := ok_law_settled Bz  T_law_settled
  have G_law_period : FnOk P w K mg base CX0 2 f_law_period fd_law_period ["_law_days", "_law_rota_here"] (spF K cm 2 law_period_f) := ok_law_period Bz T_law_lcm T_law_period
  have G_law_on : FnOk P w K mg base CX0 3 f_law_on fd_law_on ["_law_days", "_law_rota_here", "_law_time_here"] (spF K cm 3 law_on_f) := ok_law_on Bz T_law_member T_law_inside T_law_on
  refine mk_ok (k := 3) T_law_firsts.F sc_law_firsts fun cdv A outer s H E hr => ⟨_,
    (pss_cons (ps_set (i := 3) sc_law_firsts.nd rfl (.inl rfl) (pe_lst pa_nil))
    (pss_cons (ps_set (i := 4) sc_law_firsts.nd rfl (.inl rfl) (pe_lst pa_nil))
    (pss_cons (ps_for PassesOwn.never rfl (pi_range2 rfl Bz.range_ (pa_cons (pv 2) (pa_cons (pe_op o_add (pe_callB (cb_max2 rfl) (by rfl) Bz.max_ (by decide +kernel) (pa_cons (pv 2) (pa_cons (pe_call (G_law_settled) (hr.mono (by omega)) (by rfl) T_law_settled.m T_law_settled.F.kp T_law_settled.b .nil (passE (E := E)) (pa_cons (pv 1) pa_nil)) pa_nil))) (pe_call (G_law_period) (hr.mono (by omega)) (by rfl) T_law_period.m T_law_period.F.kp T_law_period.b .nil (passE (E := E)) (pa_cons (pv 0) (pa_cons (pv 1) pa_nil)))) pa_nil))) (pg_name (i := 5) sc_law_firsts.nd rfl (.inl rfl)) (pss_cons (ps_set (i := 6) sc_law_firsts.nd rfl (.inl rfl) (pe_call (G_law_on) (hr.mono (by omega)) (by rfl) T_law_on.m T_law_on.F.kp T_law_on.b .nil (passE (E := E)) (pa_cons (pv 0) (pa_cons (pv 1) (pa_cons (pv 5) pa_nil)))))
    (pss_one (ps_if (PW.pt (pw_and (pt_cmpR op_notN (pv 6) pe_non (nomark _)) (pw_and1 (pt_cmpR (o_notin (u65 hr)) (pv 6) (pv 4) (by rfl))))) (pss_cons (ps_expr (pe_bm PySem.F.plainAttrs_list PySem.F.slot_list_append PySem.F.type_list_append mt_append (pv 4) (pa_cons (pv 6) pa_nil)))
    (pss_one (ps_expr (pe_bm PySem.F.plainAttrs_list PySem.F.slot_list_append PySem.F.type_list_append mt_append (pv 3) (pa_cons (pe_tup (pa_cons (pv 6) (pa_cons (pv 5) pa_nil))) pa_nil))))) pss_nil))))
    (pss_one (ps_ret (pv 3)))))), ?_⟩
  exact fun ex => (sem_seq (sem_set (sem_lst sem_nilA))
    (sem_seq (sem_set (sem_lst sem_nilA))
    (sem_seq (sem_for (sem_rng2 (sem_conB sem_peek (sem_conB (SemE.look (sem_bin r2_add (SemE.look (sem_callB c1_max2 (sem_conB sem_peek (sem_conB (SemE.look (sem_call (sem_conA sem_var sem_nilA))) sem_nilB)))) (SemE.look (sem_call (sem_conA sem_var (sem_conA sem_var sem_nilA)))))) sem_nilB))) (sem_gName (i := 5)) (sem_kill (is := [5, 6]) (sem_seq (sem_set (sem_call (sem_conA sem_var (sem_conA sem_var (sem_conA sem_var sem_nilA)))))
    (sem_if (sem_and (sem_tTest (sem_bin r2_notn sem_peek sem_non)) (sem_tTest (sem_bin r2_notin sem_peek sem_peek))) (sem_seq (sem_frz (is := [6]) (sem_app (i := 4) sem_var))
    (sem_frz (is := [6]) (sem_app (i := 3) (sem_tup (sem_conA sem_var (sem_conA sem_var sem_nilA)))))) sem_skip))))
    (sem_retV (i := 3)))))
theorem ok_law_told (Bz : Bl K mg cm A_PeriodTooLong A_WatchError A_TooManyTimes) {t_MOST_PERIOD : Tok} (C_MOST_PERIOD : True ∧ mg "MOST_PERIOD" = some (.int 2000 t_MOST_PERIOD)) (C_lcm : True ∧ mg "lcm" = some (.builtin "math.lcm")) {f_ever_on_call : Addr} {fd_ever_on_call : FuncData} (T_ever_on_call : Fn K mg "ever_on_call" s_ever_on_call ["week", "schedule", "time"] f_ever_on_call fd_ever_on_call) {f_bounded : Addr} {fd_bounded : FuncData} (T_bounded : Fn K mg "_bounded" s_bounded ["many"] f_bounded fd_bounded) {f_period : Addr} {fd_period : FuncData} (T_period : Fn K mg "period" s_period ["week", "schedule"] f_period fd_period) {f_settled : Addr} {fd_settled : FuncData} (T_settled : Fn K mg "settled" s_settled ["schedule"] f_settled fd_settled) {f_stretches : Addr} {fd_stretches : FuncData} (T_stretches : Fn K mg "stretches" s_stretches ["week", "schedule", "first", "last"] f_stretches fd_stretches) {f_on_call : Addr} {fd_on_call : FuncData} (T_on_call : Fn K mg "on_call" s_on_call ["week", "schedule", "time"] f_on_call fd_on_call) {f_on_layer : Addr} {fd_on_layer : FuncData} (T_on_layer : Fn K mg "on_layer" s_on_layer ["week", "layer", "time"] f_on_layer fd_on_layer) {f_in_spans : Addr} {fd_in_spans : FuncData} (T_in_spans : Fn K mg "in_spans" s_in_spans ["week", "spans", "time"] f_in_spans fd_in_spans) {f_next_break : Addr} {fd_next_break : FuncData} (T_next_break : Fn K mg "next_break" s_next_break ["week", "schedule", "time"] f_next_break fd_next_break) {f_layer_breaks : Addr} {fd_layer_breaks : FuncData} (T_layer_breaks : Fn K mg "_layer_breaks" s_layer_breaks ["week", "layer", "time"] f_layer_breaks fd_layer_breaks) {f_law_told : Addr} {fd_law_told : FuncData} (T_law_told : Fn K mg "_law_told" s_law_told ["_law_days", "_law_rota_here", "_law_time_here"] f_law_told fd_law_told) : FnOk P w K mg base CX0 6 f_law_told fd_law_told ["_law_days", "_law_rota_here", "_law_time_here"] (spF K cm 3 law_told_f) := by
  have G_ever_on_call : FnOk P w K mg base (L2.CX P w) 5 f_ever_on_call fd_ever_on_call ["week", "schedule", "time"] (spF K cm 3 ever_on_call_f) := ok_ever_on_call Bz C_MOST_PERIOD C_lcm T_bounded T_period T_settled T_stretches T_on_call T_on_layer T_in_spans T_next_break T_layer_breaks T_ever_on_call
  refine mk_ok (k := 5) T_law_told.F sc_law_told fun cdv A outer s H E hr => ⟨_,
    (pss_one (ps_tryAs (i := 3) rfl rfl sc_law_told.nd rfl rfl ⟨(by rfl), (by decide), .inl Bz.g_WatchError⟩ takes0 (fun W pn xe tk _ => (pss_one (ps_ret (pe_tup (pa_cons pe_str (pa_cons (pe_callS (G_ever_on_call) (hr.mono (by omega)) (by rfl) T_ever_on_call.m T_ever_on_call.F.kp T_ever_on_call.b (fun σ => passAt tk σ) (pa_cons (pv 0) (pa_cons (pv 1) (pa_cons (pv 2) pa_nil)))) pa_nil)))))) (fun a oe cls d pn hz hf => (pss_one (ps_ret (pe_tup (pa_cons pe_str (pa_cons (pe_isE hz hf (by rfl) Bz.isinstance_ (by decide +kernel) (pa_cons (pv 3) (pa_cons (pe_glob (by rfl) Bz.g_PeriodTooLong rfl) pa_nil))) (pa_cons (pe_isE hz hf (by rfl) Bz.isinstance_ (by decide +kernel) (pa_cons (pv 3) (pa_cons (pe_glob (by rfl) Bz.g_TooManyTimes rfl) pa_nil))) pa_nil))))))))), ?_⟩
  exact fun ex => (sem_tryAs (fun W D σ H h => h) (fun E' => (sem_ret (sem_tup (sem_conA sem_str (sem_conA (sem_callE (sem_conA sem_var (sem_conA sem_var (sem_conA sem_var sem_nilA)))) sem_nilA))))) (fun n hn => match n, hn with | 0, _ => by dsimp only; rw [Bz.m0]; exact Bz.h0_WatchError | _ + 1, hn => nomatch hn) (fun n a od hn hod => match n, hn, hod with | 0, _, hod => (sem_ret (sem_tup (sem_conA sem_str (sem_conA (sem_isE (hod (by dsimp only; rw [Bz.m0])) (by dsimp only; rw [Bz.m0]; exact Bz.x0) (by dsimp only; rw [Bz.m0]; exact Bz.i0_PeriodTooLong)) (sem_conA (sem_isE (hod (by dsimp only; rw [Bz.m0])) (by dsimp only; rw [Bz.m0]; exact Bz.x0) (by dsimp only; rw [Bz.m0]; exact Bz.i0_TooManyTimes)) sem_nilA))))) | _ + 1, hn, _ => nomatch hn))
theorem ok_law (Bz : Bl K mg cm A_PeriodTooLong A_WatchError A_TooManyTimes) {t_MOST_PERIOD : Tok} (C_MOST_PERIOD : True ∧ mg "MOST_PERIOD" = some (.int 2000 t_MOST_PERIOD)) (C_lcm : True ∧ mg "lcm" = some (.builtin "math.lcm")) {f_law_world : Addr} {fd_law_world : FuncData} (T_law_world : Fn K mg "_law_world" s_law_world ["_law_script"] f_law_world fd_law_world) {f_law_draws : Addr} {fd_law_draws : FuncData} (T_law_draws : Fn K mg "_law_draws" s_law_draws ["_law_cell_here", "_law_many"] f_law_draws fd_law_draws) {f_law_cell : Addr} {fd_law_cell : FuncData} (T_law_cell : Fn K mg "_law_cell" s_law_cell ["_law_script", "_law_k"] f_law_cell fd_law_cell) {f_law_words : Addr} {fd_law_words : FuncData} (T_law_words : Fn K mg "_law_words" s_law_words ["_law_cell_here", "_law_many"] f_law_words fd_law_words) {f_law_any : Addr} {fd_law_any : FuncData} (T_law_any : Fn K mg "_law_any" s_law_any ["_law_script", "_law_at", "_law_name", "_law_crew", "_law_days", "_law_edge_here"] f_law_any fd_law_any) {f_law_edge : Addr} {fd_law_edge : FuncData} (T_law_edge : Fn K mg "_law_edge" s_law_edge ["_law_script", "_law_at", "_law_name", "_law_crew", "_law_days"] f_law_edge fd_law_edge) {f_law_rota : Addr} {fd_law_rota : FuncData} (T_law_rota : Fn K mg "_law_rota" s_law_rota ["_law_script", "_law_at", "_law_name", "_law_crew", "_law_days", "_law_size"] f_law_rota fd_law_rota) {f_law_layer : Addr} {fd_law_layer : FuncData} (T_law_layer : Fn K mg "_law_layer" s_law_layer ["_law_cell_here", "_law_crew", "_law_days", "_law_size"] f_law_layer fd_law_layer) {f_law_time : Addr} {fd_law_time : FuncData} (T_law_time : Fn K mg "_law_time" s_law_time ["_law_cell_here"] f_law_time fd_law_time) {f_law_period : Addr} {fd_law_period : FuncData} (T_law_period : Fn K mg "_law_period" s_law_period ["_law_days", "_law_rota_here"] f_law_period fd_law_period) {f_law_lcm : Addr} {fd_law_lcm : FuncData} (T_law_lcm : Fn K mg "_law_lcm" s_law_lcm ["_law_one", "_law_other"] f_law_lcm fd_law_lcm) {f_law_firsts : Addr} {fd_law_firsts : FuncData} (T_law_firsts : Fn K mg "_law_firsts" s_law_firsts ["_law_days", "_law_rota_here", "_law_time_here"] f_law_firsts fd_law_firsts) {f_law_settled : Addr} {fd_law_settled : FuncData} (T_law_settled : Fn K mg "_law_settled" s_law_settled ["_law_rota_here"] f_law_settled fd_law_settled) {f_law_on : Addr} {fd_law_on : FuncData} (T_law_on : Fn K mg "_law_on" s_law_on ["_law_days", "_law_rota_here", "_law_time_here"] f_law_on fd_law_on) {f_law_member : Addr} {fd_law_member : FuncData} (T_law_member : Fn K mg "_law_member" s_law_member ["_law_days", "_law_layer_here", "_law_time_here"] f_law_member fd_law_member) {f_law_inside : Addr} {fd_law_inside : FuncData} (T_law_inside : Fn K mg "_law_inside" s_law_inside ["_law_days", "_law_spans", "_law_time_here"] f_law_inside fd_law_inside) {f_law_same : Addr} {fd_law_same : FuncData} (T_law_same : Fn K mg "_law_same" s_law_same ["_law_told_here", "_law_wanted"] f_law_same fd_law_same) {f_law_told : Addr} {fd_law_told : FuncData} (T_law_told : Fn K mg "_law_told" s_law_told ["_law_days", "_law_rota_here", "_law_time_here"] f_law_told fd_law_told) {f_ever_on_call : Addr} {fd_ever_on_call : FuncData} (T_ever_on_call : Fn K mg "ever_on_call" s_ever_on_call ["week", "schedule", "time"] f_ever_on_call fd_ever_on_call) {f_bounded : Addr} {fd_bounded : FuncData} (T_bounded : Fn K mg "_bounded" s_bounded ["many"] f_bounded fd_bounded) {f_period : Addr} {fd_period : FuncData} (T_period : Fn K mg "period" s_period ["week", "schedule"] f_period fd_period) {f_settled : Addr} {fd_settled : FuncData} (T_settled : Fn K mg "settled" s_settled ["schedule"] f_settled fd_settled) {f_stretches : Addr} {fd_stretches : FuncData} (T_stretches : Fn K mg "stretches" s_stretches ["week", "schedule", "first", "last"] f_stretches fd_stretches) {f_on_call : Addr} {fd_on_call : FuncData} (T_on_call : Fn K mg "on_call" s_on_call ["week", "schedule", "time"] f_on_call fd_on_call) {f_on_layer : Addr} {fd_on_layer : FuncData} (T_on_layer : Fn K mg "on_layer" s_on_layer ["week", "layer", "time"] f_on_layer fd_on_layer) {f_in_spans : Addr} {fd_in_spans : FuncData} (T_in_spans : Fn K mg "in_spans" s_in_spans ["week", "spans", "time"] f_in_spans fd_in_spans) {f_next_break : Addr} {fd_next_break : FuncData} (T_next_break : Fn K mg "next_break" s_next_break ["week", "schedule", "time"] f_next_break fd_next_break) {f_layer_breaks : Addr} {fd_layer_breaks : FuncData} (T_layer_breaks : Fn K mg "_layer_breaks" s_layer_breaks ["week", "layer", "time"] f_layer_breaks fd_layer_breaks) {f_law : Addr} {fd_law : FuncData} (T_law : Fn K mg "law" s_law ["_law_script"] f_law fd_law) : FnOk P w K mg base CX0 10 f_law fd_law ["_law_script"] (spF K cm 1 law_f) := by
  have G_law_world : FnOk P w K mg base CX0 2 f_law_world fd_law_world ["_law_script"] (spF K cm 1 law_world_f) := ok_law_world Bz T_law_draws T_law_cell T_law_words T_law_world
  have G_law_any : FnOk P w K mg base CX0 4 f_law_any fd_law_any ["_law_script", "_law_at", "_law_name", "_law_crew", "_law_days", "_law_edge_here"] (spF K cm 6 law_any_f) := ok_law_any Bz T_law_edge T_law_draws T_law_cell T_law_rota T_law_layer T_law_any
  have G_law_time : FnOk P w K mg base CX0 2 f_law_time fd_law_time ["_law_cell_here"] (spF K cm 1 law_time_f) := ok_law_time Bz T_law_draws T_law_time
  have G_law_cell : FnOk P w K mg base CX0 1 f_law_cell fd_law_cell ["_law_script", "_law_k"] (spF K cm 2 law_cell_f) := ok_law_cell Bz  T_law_cell
  have G_law_period : FnOk P w K mg base CX0 2 f_law_period fd_law_period ["_law_days", "_law_rota_here"] (spF K cm 2 law_period_f) := ok_law_period Bz T_law_lcm T_law_period
  have G_law_firsts : FnOk P w K mg base CX0 4 f_law_firsts fd_law_firsts ["_law_days", "_law_rota_here", "_law_time_here"] (spF K cm 3 law_firsts_f) := ok_law_firsts Bz T_law_settled T_law_period T_law_lcm T_law_on T_law_member T_law_inside T_law_firsts
  have G_law_same : FnOk P w K mg base CX0 9 f_law_same fd_law_same ["_law_told_here", "_law_wanted"] (spF K cm 2 law_same_f) := ok_law_same Bz  T_law_same
  have G_law_told : FnOk P w K mg base CX0 6 f_law_told fd_law_told ["_law_days", "_law_rota_here", "_law_time_here"] (spF K cm 3 law_told_f) := ok_law_told Bz C_MOST_PERIOD C_lcm T_ever_on_call T_bounded T_period T_settled T_stretches T_on_call T_on_layer T_in_spans T_next_break T_layer_breaks T_law_told
  refine mk_ok (k := 9) T_law.F sc_law fun cdv A outer s H E hr => ⟨_,
    (pss_cons (ps_asg (pe_call (G_law_world) (hr.mono (by omega)) (by rfl) T_law_world.m T_law_world.F.kp T_law_world.b .nil (passE (E := E)) (pa_cons (pv 0) pa_nil)) (pg_sq (by rfl) (pgs_cons (pg_name (i := 1) sc_law.nd rfl (.inl rfl)) (pgs_cons (pg_name (i := 2) sc_law.nd rfl (.inl rfl)) (pgs_cons (pg_name (i := 3) sc_law.nd rfl (.inl rfl)) pgs_nil)))))
    (pss_cons (ps_set (i := 4) sc_law.nd rfl (.inl rfl) (pe_call (G_law_any) (hr.mono (by omega)) (by rfl) T_law_any.m T_law_any.F.kp T_law_any.b .nil (passE (E := E)) (pa_cons (pv 0) (pa_cons pe_int (pa_cons (pe_op o_add pe_str (pe_ix ix_seq (pv 2) pe_int (fun _ _ => rfl))) (pa_cons (pv 2) (pa_cons (pv 1) (pa_cons (pv 3) pa_nil))))))))
    (pss_cons (ps_for PassesOwn.never rfl (pi_range1 rfl Bz.range_ (pa_cons pe_int pa_nil)) (pg_name (i := 5) sc_law.nd rfl (.inl rfl)) (pss_cons (ps_set (i := 6) sc_law.nd rfl (.inl rfl) (pe_call (G_law_time) (hr.mono (by omega)) (by rfl) T_law_time.m T_law_time.F.kp T_law_time.b .nil (passE (E := E)) (pa_cons (pe_call (G_law_cell) (hr.mono (by omega)) (by rfl) T_law_cell.m T_law_cell.F.kp T_law_cell.b .nil (passE (E := E)) (pa_cons (pv 0) (pa_cons (pe_op o_add pe_int (pv 5)) pa_nil))) pa_nil)))
    (pss_cons (ps_set (i := 7) sc_law.nd rfl (.inl rfl) (pe_tup (pa_cons pe_str (pa_cons pe_bl (pa_cons pe_bl pa_nil)))))
    (pss_cons (ps_if (pt_cmpR o_le (pe_call (G_law_period) (hr.mono (by omega)) (by rfl) T_law_period.m T_law_period.F.kp T_law_period.b .nil (passE (E := E)) (pa_cons (pv 1) (pa_cons (pv 4) pa_nil))) pe_int (nomark _)) (pss_one (ps_set (i := 7) sc_law.nd rfl (.inl rfl) (pe_tup (pa_cons pe_str (pa_cons (pe_call (G_law_firsts) (hr.mono (by omega)) (by rfl) T_law_firsts.m T_law_firsts.F.kp T_law_firsts.b .nil (passE (E := E)) (pa_cons (pv 1) (pa_cons (pv 4) (pa_cons (pv 6) pa_nil)))) pa_nil))))) pss_nil)
    (pss_one (ps_if (pt_not (pt_truth (pe_call (G_law_same) (hr.mono (by omega)) (by rfl) T_law_same.m T_law_same.F.kp T_law_same.b .nil (passE (E := E)) (pa_cons (pe_call (G_law_told) (hr.mono (by omega)) (by rfl) T_law_told.m T_law_told.F.kp T_law_told.b .nil (passE (E := E)) (pa_cons (pv 1) (pa_cons (pv 4) (pa_cons (pv 6) pa_nil)))) (pa_cons (pv 7) pa_nil))) (fun _ => rfl))) (pss_one (ps_ret pe_bl)) pss_nil))))))
    (pss_one (ps_ret pe_bl))))), ?_⟩
  exact fun ex => (sem_seq (sem_asgG (sem_call (sem_conA sem_var sem_nilA)) (sem_gTup (n := 3) (sem_gsC (sem_gName (i := 1)) (sem_gsC (sem_gName (i := 2)) (sem_gsC (sem_gName (i := 3)) sem_gsN)))))
    (sem_seq (sem_set (sem_call (sem_conA sem_var (sem_conA sem_int (sem_conA (sem_bin r2_add sem_str (SemE.look (sem_bin r2_ix sem_peek sem_int))) (sem_conA sem_var (sem_conA sem_var (sem_conA sem_var sem_nilA))))))))
    (sem_seq (sem_for (sem_rng1 (sem_conB sem_int sem_nilB)) (sem_gName (i := 5)) (sem_kill (is := [5, 6, 7]) (sem_seq (sem_set (sem_call (sem_conA (sem_call (sem_conA sem_var (sem_conA (sem_bin r2_add sem_int sem_peek) sem_nilA))) sem_nilA)))
    (sem_seq (sem_set (sem_tup (sem_conA sem_str (sem_conA sem_bl (sem_conA sem_bl sem_nilA)))))
    (sem_seq (sem_frz (is := [4]) (sem_if (sem_tTest (sem_bin r2_le (SemE.look (sem_call (sem_conA sem_var (sem_conA sem_var sem_nilA)))) sem_int)) (sem_frz (is := [4, 6]) (sem_set (sem_tup (sem_conA sem_str (sem_conA (sem_call (sem_conA sem_var (sem_conA sem_var (sem_conA sem_var sem_nilA)))) sem_nilA))))) sem_skip))
    (sem_frz (is := [4, 6]) (sem_if (sem_not (sem_tru (SemE.look (sem_call (sem_conA (sem_call (sem_conA sem_var (sem_conA sem_var (sem_conA sem_var sem_nilA)))) (sem_conA sem_var sem_nilA)))))) (sem_ret sem_bl) sem_skip)))))))
    (sem_ret sem_bl))))
end
/-! ### the end -/
theorem all_mk {l : PySem.W.OpenLaw} {w : World} {K : PySem.W.Frag} {h : Heap} {mg : Str → Option Value} {fa : Addr} {A_PeriodTooLong A_WatchError A_TooManyTimes : Addr} (X : K.In h) (G : h.Ns mainGlobals mg) (hfa : mg "law" = some (.ref fa))
    {od_in_spans an_in_spans : Option Addr} {sl_in_spans : Array (Option Value)} {oc_in_spans kV_in_spans dc_in_spans pm_in_spans cd_in_spans ct_in_spans : Value} {f_in_spans : Addr}
    {od_on_layer an_on_layer : Option Addr} {sl_on_layer : Array (Option Value)} {oc_on_layer kV_on_layer dc_on_layer pm_on_layer cd_on_layer ct_on_layer : Value} {f_on_layer : Addr}
    {od_on_call an_on_call : Option Addr} {sl_on_call : Array (Option Value)} {oc_on_call kV_on_call dc_on_call pm_on_call cd_on_call ct_on_call : Value} {f_on_call : Addr}
    {od_layer_breaks an_layer_breaks : Option Addr} {sl_layer_breaks : Array (Option Value)} {oc_layer_breaks kV_layer_breaks dc_layer_breaks pm_layer_breaks cd_layer_breaks ct_layer_breaks : Value} {f_layer_breaks : Addr}
    {od_next_break an_next_break : Option Addr} {sl_next_break : Array (Option Value)} {oc_next_break kV_next_break dc_next_break pm_next_break cd_next_break ct_next_break : Value} {f_next_break : Addr}
    {od_settled an_settled : Option Addr} {sl_settled : Array (Option Value)} {oc_settled kV_settled dc_settled pm_settled cd_settled ct_settled : Value} {f_settled : Addr}
    {od_period an_period : Option Addr} {sl_period : Array (Option Value)} {oc_period kV_period dc_period pm_period cd_period ct_period : Value} {f_period : Addr}
    {od_stretches an_stretches : Option Addr} {sl_stretches : Array (Option Value)} {oc_stretches kV_stretches dc_stretches pm_stretches cd_stretches ct_stretches : Value} {f_stretches : Addr}
    {od_bounded an_bounded : Option Addr} {sl_bounded : Array (Option Value)} {oc_bounded kV_bounded dc_bounded pm_bounded cd_bounded ct_bounded : Value} {f_bounded : Addr}
    {od_ever_on_call an_ever_on_call : Option Addr} {sl_ever_on_call : Array (Option Value)} {oc_ever_on_call kV_ever_on_call dc_ever_on_call pm_ever_on_call cd_ever_on_call ct_ever_on_call : Value} {f_ever_on_call : Addr}
    {od_law_cell an_law_cell : Option Addr} {sl_law_cell : Array (Option Value)} {oc_law_cell kV_law_cell dc_law_cell pm_law_cell cd_law_cell ct_law_cell : Value} {f_law_cell : Addr}
    {od_law_draws an_law_draws : Option Addr} {sl_law_draws : Array (Option Value)} {oc_law_draws kV_law_draws dc_law_draws pm_law_draws cd_law_draws ct_law_draws : Value} {f_law_draws : Addr}
    {od_law_same an_law_same : Option Addr} {sl_law_same : Array (Option Value)} {oc_law_same kV_law_same dc_law_same pm_law_same cd_law_same ct_law_same : Value} {f_law_same : Addr}
    {od_law_words an_law_words : Option Addr} {sl_law_words : Array (Option Value)} {oc_law_words kV_law_words dc_law_words pm_law_words cd_law_words ct_law_words : Value} {f_law_words : Addr}
    {od_law_layer an_law_layer : Option Addr} {sl_law_layer : Array (Option Value)} {oc_law_layer kV_law_layer dc_law_layer pm_law_layer cd_law_layer ct_law_layer : Value} {f_law_layer : Addr}
    {od_law_rota an_law_rota : Option Addr} {sl_law_rota : Array (Option Value)} {oc_law_rota kV_law_rota dc_law_rota pm_law_rota cd_law_rota ct_law_rota : Value} {f_law_rota : Addr}
    {od_law_edge an_law_edge : Option Addr} {sl_law_edge : Array (Option Value)} {oc_law_edge kV_law_edge dc_law_edge pm_law_edge cd_law_edge ct_law_edge : Value} {f_law_edge : Addr}
    {od_law_world an_law_world : Option Addr} {sl_law_world : Array (Option Value)} {oc_law_world kV_law_world dc_law_world pm_law_world cd_law_world ct_law_world : Value} {f_law_world : Addr}
    {od_law_any an_law_any : Option Addr} {sl_law_any : Array (Option Value)} {oc_law_any kV_law_any dc_law_any pm_law_any cd_law_any ct_law_any : Value} {f_law_any : Addr}
    {od_law_inside an_law_inside : Option Addr} {sl_law_inside : Array (Option Value)} {oc_law_inside kV_law_inside dc_law_inside pm_law_inside cd_law_inside ct_law_inside : Value} {f_law_inside : Addr}
    {od_law_member an_law_member : Option Addr} {sl_law_member : Array (Option Value)} {oc_law_member kV_law_member dc_law_member pm_law_member cd_law_member ct_law_member : Value} {f_law_member : Addr}
    {od_law_on an_law_on : Option Addr} {sl_law_on : Array (Option Value)} {oc_law_on kV_law_on dc_law_on pm_law_on cd_law_on ct_law_on : Value} {f_law_on : Addr}
    {od_law_lcm an_law_lcm : Option Addr} {sl_law_lcm : Array (Option Value)} {oc_law_lcm kV_law_lcm dc_law_lcm pm_law_lcm cd_law_lcm ct_law_lcm : Value} {f_law_lcm : Addr}
    {od_law_period an_law_period : Option Addr} {sl_law_period : Array (Option Value)} {oc_law_period kV_law_period dc_law_period pm_law_period cd_law_period ct_law_period : Value} {f_law_period : Addr}
    {od_law_settled an_law_settled : Option Addr} {sl_law_settled : Array (Option Value)} {oc_law_settled kV_law_settled dc_law_settled pm_law_settled cd_law_settled ct_law_settled : Value} {f_law_settled : Addr}
    {od_law_time an_law_time : Option Addr} {sl_law_time : Array (Option Value)} {oc_law_time kV_law_time dc_law_time pm_law_time cd_law_time ct_law_time : Value} {f_law_time : Addr}
    {od_law_firsts an_law_firsts : Option Addr} {sl_law_firsts : Array (Option Value)} {oc_law_firsts kV_law_firsts dc_law_firsts pm_law_firsts cd_law_firsts ct_law_firsts : Value} {f_law_firsts : Addr}
    {od_law_told an_law_told : Option Addr} {sl_law_told : Array (Option Value)} {oc_law_told kV_law_told dc_law_told pm_law_told cd_law_told ct_law_told : Value} {f_law_told : Addr}
    {od_law an_law : Option Addr} {sl_law : Array (Option Value)} {oc_law kV_law dc_law pm_law cd_law ct_law : Value} {f_law : Addr} {t_MOST_PERIOD : Tok}
    (a_in_spans : PySem.W.nsIn K mainGlobals "in_spans" = some (some (.ref f_in_spans))) (l_in_spans : K.lookup f_in_spans = some ⟨oc_in_spans, od_in_spans, .func (PySem.W.fnOf "in_spans" "in_spans" (defArgs s_in_spans) (defBody s_in_spans) (defScope s_in_spans) .none kV_in_spans dc_in_spans pm_in_spans an_in_spans cd_in_spans ct_in_spans), sl_in_spans⟩) (c_in_spans : PySem.W.codeIn K cd_in_spans "in_spans" = true) (k_in_spans : PySem.W.keepIn K (.ref f_in_spans) = true)
    (a_on_layer : PySem.W.nsIn K mainGlobals "on_layer" = some (some (.ref f_on_layer))) (l_on_layer : K.lookup f_on_layer = some ⟨oc_on_layer, od_on_layer, .func (PySem.W.fnOf "on_layer" "on_layer" (defArgs s_on_layer) (defBody s_on_layer) (defScope s_on_layer) .none kV_on_layer dc_on_layer pm_on_layer an_on_layer cd_on_layer ct_on_layer), sl_on_layer⟩) (c_on_layer : PySem.W.codeIn K cd_on_layer "on_layer" = true) (k_on_layer : PySem.W.keepIn K (.ref f_on_layer) = true)
    (a_on_call : PySem.W.nsIn K mainGlobals "on_call" = some (some (.ref f_on_call))) (l_on_call : K.lookup f_on_call = some ⟨oc_on_call, od_on_call, .func (PySem.W.fnOf "on_call" "on_call" (defArgs s_on_call) (defBody s_on_call) (defScope s_on_call) .none kV_on_call dc_on_call pm_on_call an_on_call cd_on_call ct_on_call), sl_on_call⟩) (c_on_call : PySem.W.codeIn K cd_on_call "on_call" = true) (k_on_call : PySem.W.keepIn K (.ref f_on_call) = true)
    (a_layer_breaks : PySem.W.nsIn K mainGlobals "_layer_breaks" = some (some (.ref f_layer_breaks))) (l_layer_breaks : K.lookup f_layer_breaks = some ⟨oc_layer_breaks, od_layer_breaks, .func (PySem.W.fnOf "_layer_breaks" "_layer_breaks" (defArgs s_layer_breaks) (defBody s_layer_breaks) (defScope s_layer_breaks) .none kV_layer_breaks dc_layer_breaks pm_layer_breaks an_layer_breaks cd_layer_breaks ct_layer_breaks), sl_layer_breaks⟩) (c_layer_breaks : PySem.W.codeIn K cd_layer_breaks "_layer_breaks" = true) (k_layer_breaks : PySem.W.keepIn K (.ref f_layer_breaks) = true)
    (a_next_break : PySem.W.nsIn K mainGlobals "next_break" = some (some (.ref f_next_break))) (l_next_break : K.lookup f_next_break = some ⟨oc_next_break, od_next_break, .func (PySem.W.fnOf "next_break" "next_break" (defArgs s_next_break) (defBody s_next_break) (defScope s_next_break) .none kV_next_break dc_next_break pm_next_break an_next_break cd_next_break ct_next_break), sl_next_break⟩) (c_next_break : PySem.W.codeIn K cd_next_break "next_break" = true) (k_next_break : PySem.W.keepIn K (.ref f_next_break) = true)
    (a_settled : PySem.W.nsIn K mainGlobals "settled" = some (some (.ref f_settled))) (l_settled : K.lookup f_settled = some ⟨oc_settled, od_settled, .func (PySem.W.fnOf "settled" "settled" (defArgs s_settled) (defBody s_settled) (defScope s_settled) .none kV_settled dc_settled pm_settled an_settled cd_settled ct_settled), sl_settled⟩) (c_settled : PySem.W.codeIn K cd_settled "settled" = true) (k_settled : PySem.W.keepIn K (.ref f_settled) = true)
    (a_period : PySem.W.nsIn K mainGlobals "period" = some (some (.ref f_period))) (l_period : K.lookup f_period = some ⟨oc_period, od_period, .func (PySem.W.fnOf "period" "period" (defArgs s_period) (defBody s_period) (defScope s_period) .none kV_period dc_period pm_period an_period cd_period ct_period), sl_period⟩) (c_period : PySem.W.codeIn K cd_period "period" = true) (k_period : PySem.W.keepIn K (.ref f_period) = true)
    (a_stretches : PySem.W.nsIn K mainGlobals "stretches" = some (some (.ref f_stretches))) (l_stretches : K.lookup f_stretches = some ⟨oc_stretches, od_stretches, .func (PySem.W.fnOf "stretches" "stretches" (defArgs s_stretches) (defBody s_stretches) (defScope s_stretches) .none kV_stretches dc_stretches pm_stretches an_stretches cd_stretches ct_stretches), sl_stretches⟩) (c_stretches : PySem.W.codeIn K cd_stretches "stretches" = true) (k_stretches : PySem.W.keepIn K (.ref f_stretches) = true)
    (a_bounded : PySem.W.nsIn K mainGlobals "_bounded" = some (some (.ref f_bounded))) (l_bounded : K.lookup f_bounded = some ⟨oc_bounded, od_bounded, .func (PySem.W.fnOf "_bounded" "_bounded" (defArgs s_bounded) (defBody s_bounded) (defScope s_bounded) .none kV_bounded dc_bounded pm_bounded an_bounded cd_bounded ct_bounded), sl_bounded⟩) (c_bounded : PySem.W.codeIn K cd_bounded "_bounded" = true) (k_bounded : PySem.W.keepIn K (.ref f_bounded) = true)
    (a_ever_on_call : PySem.W.nsIn K mainGlobals "ever_on_call" = some (some (.ref f_ever_on_call))) (l_ever_on_call : K.lookup f_ever_on_call = some ⟨oc_ever_on_call, od_ever_on_call, .func (PySem.W.fnOf "ever_on_call" "ever_on_call" (defArgs s_ever_on_call) (defBody s_ever_on_call) (defScope s_ever_on_call) .none kV_ever_on_call dc_ever_on_call pm_ever_on_call an_ever_on_call cd_ever_on_call ct_ever_on_call), sl_ever_on_call⟩) (c_ever_on_call : PySem.W.codeIn K cd_ever_on_call "ever_on_call" = true) (k_ever_on_call : PySem.W.keepIn K (.ref f_ever_on_call) = true)
    (a_law_cell : PySem.W.nsIn K mainGlobals "_law_cell" = some (some (.ref f_law_cell))) (l_law_cell : K.lookup f_law_cell = some ⟨oc_law_cell, od_law_cell, .func (PySem.W.fnOf "_law_cell" "_law_cell" (defArgs s_law_cell) (defBody s_law_cell) (defScope s_law_cell) .none kV_law_cell dc_law_cell pm_law_cell an_law_cell cd_law_cell ct_law_cell), sl_law_cell⟩) (c_law_cell : PySem.W.codeIn K cd_law_cell "_law_cell" = true) (k_law_cell : PySem.W.keepIn K (.ref f_law_cell) = true)
    (a_law_draws : PySem.W.nsIn K mainGlobals "_law_draws" = some (some (.ref f_law_draws))) (l_law_draws : K.lookup f_law_draws = some ⟨oc_law_draws, od_law_draws, .func (PySem.W.fnOf "_law_draws" "_law_draws" (defArgs s_law_draws) (defBody s_law_draws) (defScope s_law_draws) .none kV_law_draws dc_law_draws pm_law_draws an_law_draws cd_law_draws ct_law_draws), sl_law_draws⟩) (c_law_draws : PySem.W.codeIn K cd_law_draws "_law_draws" = true) (k_law_draws : PySem.W.keepIn K (.ref f_law_draws) = true)
    (a_law_same : PySem.W.nsIn K mainGlobals "_law_same" = some (some (.ref f_law_same))) (l_law_same : K.lookup f_law_same = some ⟨oc_law_same, od_law_same, .func (PySem.W.fnOf "_law_same" "_law_same" (defArgs s_law_same) (defBody s_law_same) (defScope s_law_same) .none kV_law_same dc_law_same pm_law_same an_law_same cd_law_same ct_law_same), sl_law_same⟩) (c_law_same : PySem.W.codeIn K cd_law_same "_law_same" = true) (k_law_same : PySem.W.keepIn K (.ref f_law_same) = true)
    (a_law_words : PySem.W.nsIn K mainGlobals "_law_words" = some (some (.ref f_law_words))) (l_law_words : K.lookup f_law_words = some ⟨oc_law_words, od_law_words, .func (PySem.W.fnOf "_law_words" "_law_words" (defArgs s_law_words) (defBody s_law_words) (defScope s_law_words) .none kV_law_words dc_law_words pm_law_words an_law_words cd_law_words ct_law_words), sl_law_words⟩) (c_law_words : PySem.W.codeIn K cd_law_words "_law_words" = true) (k_law_words : PySem.W.keepIn K (.ref f_law_words) = true)
    (a_law_layer : PySem.W.nsIn K mainGlobals "_law_layer" = some (some (.ref f_law_layer))) (l_law_layer : K.lookup f_law_layer = some ⟨oc_law_layer, od_law_layer, .func (PySem.W.fnOf "_law_layer" "_law_layer" (defArgs s_law_layer) (defBody s_law_layer) (defScope s_law_layer) .none kV_law_layer dc_law_layer pm_law_layer an_law_layer cd_law_layer ct_law_layer), sl_law_layer⟩) (c_law_layer : PySem.W.codeIn K cd_law_layer "_law_layer" = true) (k_law_layer : PySem.W.keepIn K (.ref f_law_layer) = true)
    (a_law_rota : PySem.W.nsIn K mainGlobals "_law_rota" = some (some (.ref f_law_rota))) (l_law_rota : K.lookup f_law_rota = some ⟨oc_law_rota, od_law_rota, .func (PySem.W.fnOf "_law_rota" "_law_rota" (defArgs s_law_rota) (defBody s_law_rota) (defScope s_law_rota) .none kV_law_rota dc_law_rota pm_law_rota an_law_rota cd_law_rota ct_law_rota), sl_law_rota⟩) (c_law_rota : PySem.W.codeIn K cd_law_rota "_law_rota" = true) (k_law_rota : PySem.W.keepIn K (.ref f_law_rota) = true)
    (a_law_edge : PySem.W.nsIn K mainGlobals "_law_edge" = some (some (.ref f_law_edge))) (l_law_edge : K.lookup f_law_edge = some ⟨oc_law_edge, od_law_edge, .func (PySem.W.fnOf "_law_edge" "_law_edge" (defArgs s_law_edge) (defBody s_law_edge) (defScope s_law_edge) .none kV_law_edge dc_law_edge pm_law_edge an_law_edge cd_law_edge ct_law_edge), sl_law_edge⟩) (c_law_edge : PySem.W.codeIn K cd_law_edge "_law_edge" = true) (k_law_edge : PySem.W.keepIn K (.ref f_law_edge) = true)
    (a_law_world : PySem.W.nsIn K mainGlobals "_law_world" = some (some (.ref f_law_world))) (l_law_world : K.lookup f_law_world = some ⟨oc_law_world, od_law_world, .func (PySem.W.fnOf "_law_world" "_law_world" (defArgs s_law_world) (defBody s_law_world) (defScope s_law_world) .none kV_law_world dc_law_world pm_law_world an_law_world cd_law_world ct_law_world), sl_law_world⟩) (c_law_world : PySem.W.codeIn K cd_law_world "_law_world" = true) (k_law_world : PySem.W.keepIn K (.ref f_law_world) = true)
    (a_law_any : PySem.W.nsIn K mainGlobals "_law_any" = some (some (.ref f_law_any))) (l_law_any : K.lookup f_law_any = some ⟨oc_law_any, od_law_any, .func (PySem.W.fnOf "_law_any" "_law_any" (defArgs s_law_any) (defBody s_law_any) (defScope s_law_any) .none kV_law_any dc_law_any pm_law_any an_law_any cd_law_any ct_law_any), sl_law_any⟩) (c_law_any : PySem.W.codeIn K cd_law_any "_law_any" = true) (k_law_any : PySem.W.keepIn K (.ref f_law_any) = true)
    (a_law_inside : PySem.W.nsIn K mainGlobals "_law_inside" = some (some (.ref f_law_inside))) (l_law_inside : K.lookup f_law_inside = some ⟨oc_law_inside, od_law_inside, .func (PySem.W.fnOf "_law_inside" "_law_inside" (defArgs s_law_inside) (defBody s_law_inside) (defScope s_law_inside) .none kV_law_inside dc_law_inside pm_law_inside an_law_inside cd_law_inside ct_law_inside), sl_law_inside⟩) (c_law_inside : PySem.W.codeIn K cd_law_inside "_law_inside" = true) (k_law_inside : PySem.W.keepIn K (.ref f_law_inside) = true)
    (a_law_member : PySem.W.nsIn K mainGlobals "_law_member" = some (some (.ref f_law_member))) (l_law_member : K.lookup f_law_member = some ⟨oc_law_member, od_law_member, .func (PySem.W.fnOf "_law_member" "_law_member" (defArgs s_law_member) (defBody s_law_member) (defScope s_law_member) .none kV_law_member dc_law_member pm_law_member an_law_member cd_law_member ct_law_member), sl_law_member⟩) (c_law_member : PySem.W.codeIn K cd_law_member "_law_member" = true) (k_law_member : PySem.W.keepIn K (.ref f_law_member) = true)
    (a_law_on : PySem.W.nsIn K mainGlobals "_law_on" = some (some (.ref f_law_on))) (l_law_on : K.lookup f_law_on = some ⟨oc_law_on, od_law_on, .func (PySem.W.fnOf "_law_on" "_law_on" (defArgs s_law_on) (defBody s_law_on) (defScope s_law_on) .none kV_law_on dc_law_on pm_law_on an_law_on cd_law_on ct_law_on), sl_law_on⟩) (c_law_on : PySem.W.codeIn K cd_law_on "_law_on" = true) (k_law_on : PySem.W.keepIn K (.ref f_law_on) = true)
    (a_law_lcm : PySem.W.nsIn K mainGlobals "_law_lcm" = some (some (.ref f_law_lcm))) (l_law_lcm : K.lookup f_law_lcm = some ⟨oc_law_lcm, od_law_lcm, .func (PySem.W.fnOf "_law_lcm" "_law_lcm" (defArgs s_law_lcm) (defBody s_law_lcm) (defScope s_law_lcm) .none kV_law_lcm dc_law_lcm pm_law_lcm an_law_lcm cd_law_lcm ct_law_lcm), sl_law_lcm⟩) (c_law_lcm : PySem.W.codeIn K cd_law_lcm "_law_lcm" = true) (k_law_lcm : PySem.W.keepIn K (.ref f_law_lcm) = true)
    (a_law_period : PySem.W.nsIn K mainGlobals "_law_period" = some (some (.ref f_law_period))) (l_law_period : K.lookup f_law_period = some ⟨oc_law_period, od_law_period, .func (PySem.W.fnOf "_law_period" "_law_period" (defArgs s_law_period) (defBody s_law_period) (defScope s_law_period) .none kV_law_period dc_law_period pm_law_period an_law_period cd_law_period ct_law_period), sl_law_period⟩) (c_law_period : PySem.W.codeIn K cd_law_period "_law_period" = true) (k_law_period : PySem.W.keepIn K (.ref f_law_period) = true)
    (a_law_settled : PySem.W.nsIn K mainGlobals "_law_settled" = some (some (.ref f_law_settled))) (l_law_settled : K.lookup f_law_settled = some ⟨oc_law_settled, od_law_settled, .func (PySem.W.fnOf "_law_settled" "_law_settled" (defArgs s_law_settled) (defBody s_law_settled) (defScope s_law_settled) .none kV_law_settled dc_law_settled pm_law_settled an_law_settled cd_law_settled ct_law_settled), sl_law_settled⟩) (c_law_settled : PySem.W.codeIn K cd_law_settled "_law_settled" = true) (k_law_settled : PySem.W.keepIn K (.ref f_law_settled) = true)
    (a_law_time : PySem.W.nsIn K mainGlobals "_law_time" = some (some (.ref f_law_time))) (l_law_time : K.lookup f_law_time = some ⟨oc_law_time, od_law_time, .func (PySem.W.fnOf "_law_time" "_law_time" (defArgs s_law_time) (defBody s_law_time) (defScope s_law_time) .none kV_law_time dc_law_time pm_law_time an_law_time cd_law_time ct_law_time), sl_law_time⟩) (c_law_time : PySem.W.codeIn K cd_law_time "_law_time" = true) (k_law_time : PySem.W.keepIn K (.ref f_law_time) = true)
    (a_law_firsts : PySem.W.nsIn K mainGlobals "_law_firsts" = some (some (.ref f_law_firsts))) (l_law_firsts : K.lookup f_law_firsts = some ⟨oc_law_firsts, od_law_firsts, .func (PySem.W.fnOf "_law_firsts" "_law_firsts" (defArgs s_law_firsts) (defBody s_law_firsts) (defScope s_law_firsts) .none kV_law_firsts dc_law_firsts pm_law_firsts an_law_firsts cd_law_firsts ct_law_firsts), sl_law_firsts⟩) (c_law_firsts : PySem.W.codeIn K cd_law_firsts "_law_firsts" = true) (k_law_firsts : PySem.W.keepIn K (.ref f_law_firsts) = true)
    (a_law_told : PySem.W.nsIn K mainGlobals "_law_told" = some (some (.ref f_law_told))) (l_law_told : K.lookup f_law_told = some ⟨oc_law_told, od_law_told, .func (PySem.W.fnOf "_law_told" "_law_told" (defArgs s_law_told) (defBody s_law_told) (defScope s_law_told) .none kV_law_told dc_law_told pm_law_told an_law_told cd_law_told ct_law_told), sl_law_told⟩) (c_law_told : PySem.W.codeIn K cd_law_told "_law_told" = true) (k_law_told : PySem.W.keepIn K (.ref f_law_told) = true)
    (a_law : PySem.W.nsIn K mainGlobals "law" = some (some (.ref f_law))) (l_law : K.lookup f_law = some ⟨oc_law, od_law, .func (PySem.W.fnOf "law" "law" (defArgs s_law) (defBody s_law) (defScope s_law) .none kV_law dc_law pm_law an_law cd_law ct_law), sl_law⟩) (c_law : PySem.W.codeIn K cd_law "law" = true) (k_law : PySem.W.keepIn K (.ref f_law) = true)
    (v_MOST_PERIOD : PySem.W.nsIn K mainGlobals "MOST_PERIOD" = some (some (.int 2000 t_MOST_PERIOD)))
    (v_lcm : PySem.W.nsIn K mainGlobals "lcm" = some (some (.builtin "math.lcm")))
    (xg_PeriodTooLong : PySem.W.nsIn K mainGlobals "PeriodTooLong" = some (some (.ref A_PeriodTooLong)))
    (xg_WatchError : PySem.W.nsIn K mainGlobals "WatchError" = some (some (.ref A_WatchError)))
    (xg_TooManyTimes : PySem.W.nsIn K mainGlobals "TooManyTimes" = some (some (.ref A_TooManyTimes)))
    (xb_PeriodTooLong : PySem.W.subIn K (.ref A_PeriodTooLong) (.type "BaseException") = some true)
    (xt_PeriodTooLong : PySem.W.typeIn K (.ref A_PeriodTooLong) = some (.type "type"))
    (xd_PeriodTooLong : PySem.W.hasDictIn K A_PeriodTooLong = true)
    (xb_WatchError : PySem.W.subIn K (.ref A_WatchError) (.type "BaseException") = some true)
    (xt_WatchError : PySem.W.typeIn K (.ref A_WatchError) = some (.type "type"))
    (xd_WatchError : PySem.W.hasDictIn K A_WatchError = true)
    (xb_TooManyTimes : PySem.W.subIn K (.ref A_TooManyTimes) (.type "BaseException") = some true)
    (xt_TooManyTimes : PySem.W.typeIn K (.ref A_TooManyTimes) = some (.type "type"))
    (xd_TooManyTimes : PySem.W.hasDictIn K A_TooManyTimes = true)
    (xe_PeriodTooLong : PySem.W.excIn K A_PeriodTooLong [.type "ValueError", .type "Exception", .type "BaseException", .type "object"] "ValueError.__new__" = true)
    (xk_PeriodTooLong : PySem.W.keepIn K (.ref A_PeriodTooLong) = true)
    (xs_PeriodTooLong_WatchError : PySem.W.subIn K (.ref A_PeriodTooLong) (.ref A_WatchError) = some true)
    (xi_PeriodTooLong_PeriodTooLong : PySem.W.kitOne K (.ref A_PeriodTooLong) (.ref A_PeriodTooLong) = some true)
    (xi_PeriodTooLong_TooManyTimes : PySem.W.kitOne K (.ref A_PeriodTooLong) (.ref A_TooManyTimes) = some false)
    (xA_PeriodTooLong : PySem.W.findIn K (.ref A_PeriodTooLong) "__getattribute__" = some (some (.builtin "BaseException.__getattribute__")))
    (xB_PeriodTooLong : PySem.W.findIn K (.ref A_PeriodTooLong) "__getattr__" = some none)
    (xC_PeriodTooLong : PySem.W.findIn K (.ref A_PeriodTooLong) "__class__" = some (some (.builtin "object.__class__")))
    (xD_PeriodTooLong : PySem.W.specialIn K (.builtin "object.__class__") "__get__" = some (some (.builtin "getset_descriptor.__get__")))
    (xE_PeriodTooLong : PySem.W.takesIn K (.builtin "object.__class__") = some true)
    (xF_PeriodTooLong : PySem.W.mroIn K A_PeriodTooLong (.type "object") = some true)
    (z_any : PySem.W.nsIn K mainGlobals "any" = some none)
    (z_bool : PySem.W.nsIn K mainGlobals "bool" = some none)
    (z_int : PySem.W.nsIn K mainGlobals "int" = some none)
    (z_isinstance : PySem.W.nsIn K mainGlobals "isinstance" = some none)
    (z_len : PySem.W.nsIn K mainGlobals "len" = some none)
    (z_list : PySem.W.nsIn K mainGlobals "list" = some none)
    (z_max : PySem.W.nsIn K mainGlobals "max" = some none)
    (z_min : PySem.W.nsIn K mainGlobals "min" = some none)
    (z_range : PySem.W.nsIn K mainGlobals "range" = some none)
    (z_str : PySem.W.nsIn K mainGlobals "str" = some none)
    (z_tuple : PySem.W.nsIn K mainGlobals "tuple" = some none) :
    ∃ fd : FuncData, (∀ (s : Shared) (v : Value), BindsTo s fd ⟨[v], []⟩ [("_law_script", v)]) ∧ ∀ base : Heap, K.In base → base.Ns mainGlobals mg → FnOk l.prog w K mg base CX0 10 fa fd ["_law_script"] (spL K 1 law_f) := by
  have e := hfa.symm.trans (PySem.W.mg_of X G a_law)
  cases e
  let cm : Nat → Addr × List Str := fun n => match n with | 0 => (A_PeriodTooLong, []) | _ => (0, [])
  have Bz : Bl K mg cm A_PeriodTooLong A_WatchError A_TooManyTimes := ⟨PySem.W.mg_none_of X G z_any, PySem.W.mg_none_of X G z_bool, PySem.W.mg_none_of X G z_int, PySem.W.mg_none_of X G z_isinstance, PySem.W.mg_none_of X G z_len, PySem.W.mg_none_of X G z_list, PySem.W.mg_none_of X G z_max, PySem.W.mg_none_of X G z_min, PySem.W.mg_none_of X G z_range, PySem.W.mg_none_of X G z_str, PySem.W.mg_none_of X G z_tuple, rfl, ⟨PySem.W.mg_of X G xg_PeriodTooLong, xe_PeriodTooLong, xk_PeriodTooLong, xb_PeriodTooLong, xt_PeriodTooLong⟩, PySem.W.mg_of X G xg_PeriodTooLong, PySem.W.mg_of X G xg_WatchError, PySem.W.mg_of X G xg_TooManyTimes, PySem.W.exm_ref xb_WatchError xd_WatchError xt_WatchError xs_PeriodTooLong_WatchError, xi_PeriodTooLong_PeriodTooLong, xi_PeriodTooLong_TooManyTimes, ⟨xA_PeriodTooLong, xB_PeriodTooLong, xb_PeriodTooLong, xd_PeriodTooLong, xC_PeriodTooLong, xD_PeriodTooLong, xE_PeriodTooLong, xF_PeriodTooLong⟩⟩
  have F_in_spans := fun_mk (st := s_in_spans) l_in_spans c_in_spans k_in_spans
  have T_in_spans : Fn K mg "in_spans" s_in_spans ["week", "spans", "time"] _ _ := ⟨F_in_spans, F_in_spans.binds (ps := ["week", "spans", "time"]) fun _ _ _ _ _ _ us hl => match us, hl with | [_, _, _], _ => rfl, PySem.W.mg_of X G a_in_spans⟩
  have F_on_layer := fun_mk (st := s_on_layer) l_on_layer c_on_layer k_on_layer
  have T_on_layer : Fn K mg "on_layer" s_on_layer ["week", "layer", "time"] _ _ := ⟨F_on_layer, F_on_layer.binds (ps := ["week", "layer", "time"]) fun _ _ _ _ _ _ us hl => match us, hl with | [_, _, _], _ => rfl, PySem.W.mg_of X G a_on_layer⟩
  have F_on_call := fun_mk (st := s_on_call) l_on_call c_on_call k_on_call
  have T_on_call : Fn K mg "on_call" s_on_call ["week", "schedule", "time"] _ _ := ⟨F_on_call, F_on_call.binds (ps := ["week", "schedule", "time"]) fun _ _ _ _ _ _ us hl => match us, hl with | [_, _, _], _ => rfl, PySem.W.mg_of X G a_on_call⟩
  have F_layer_breaks := fun_mk (st := s_layer_breaks) l_layer_breaks c_layer_breaks k_layer_breaks
  have T_layer_breaks : Fn K mg "_layer_breaks" s_layer_breaks ["week", "layer", "time"] _ _ := ⟨F_layer_breaks, F_layer_breaks.binds (ps := ["week", "layer", "time"]) fun _ _ _ _ _ _ us hl => match us, hl with | [_, _, _], _ => rfl, PySem.W.mg_of X G a_layer_breaks⟩
  have F_next_break := fun_mk (st := s_next_break) l_next_break c_next_break k_next_break
  have T_next_break : Fn K mg "next_break" s_next_break ["week", "schedule", "time"] _ _ := ⟨F_next_break, F_next_break.binds (ps := ["week", "schedule", "time"]) fun _ _ _ _ _ _ us hl => match us, hl with | [_, _, _], _ => rfl, PySem.W.mg_of X G a_next_break⟩
  have F_settled := fun_mk (st := s_settled) l_settled c_settled k_settled
  have T_settled : Fn K mg "settled" s_settled ["schedule"] _ _ := ⟨F_settled, F_settled.binds (ps := ["schedule"]) fun _ _ _ _ _ _ us hl => match us, hl with | [_], _ => rfl, PySem.W.mg_of X G a_settled⟩
  have F_period := fun_mk (st := s_period) l_period c_period k_period
  have T_period : Fn K mg "period" s_period ["week", "schedule"] _ _ := ⟨F_period, F_period.binds (ps := ["week", "schedule"]) fun _ _ _ _ _ _ us hl => match us, hl with | [_, _], _ => rfl, PySem.W.mg_of X G a_period⟩
  have F_stretches := fun_mk (st := s_stretches) l_stretches c_stretches k_stretches
  have T_stretches : Fn K mg "stretches" s_stretches ["week", "schedule", "first", "last"] _ _ := ⟨F_stretches, F_stretches.binds (ps := ["week", "schedule", "first", "last"]) fun _ _ _ _ _ _ us hl => match us, hl with | [_, _, _, _], _ => rfl, PySem.W.mg_of X G a_stretches⟩
  have F_bounded := fun_mk (st := s_bounded) l_bounded c_bounded k_bounded
  have T_bounded : Fn K mg "_bounded" s_bounded ["many"] _ _ := ⟨F_bounded, F_bounded.binds (ps := ["many"]) fun _ _ _ _ _ _ us hl => match us, hl with | [_], _ => rfl, PySem.W.mg_of X G a_bounded⟩
  have F_ever_on_call := fun_mk (st := s_ever_on_call) l_ever_on_call c_ever_on_call k_ever_on_call
  have T_ever_on_call : Fn K mg "ever_on_call" s_ever_on_call ["week", "schedule", "time"] _ _ := ⟨F_ever_on_call, F_ever_on_call.binds (ps := ["week", "schedule", "time"]) fun _ _ _ _ _ _ us hl => match us, hl with | [_, _, _], _ => rfl, PySem.W.mg_of X G a_ever_on_call⟩
  have F_law_cell := fun_mk (st := s_law_cell) l_law_cell c_law_cell k_law_cell
  have T_law_cell : Fn K mg "_law_cell" s_law_cell ["_law_script", "_law_k"] _ _ := ⟨F_law_cell, F_law_cell.binds (ps := ["_law_script", "_law_k"]) fun _ _ _ _ _ _ us hl => match us, hl with | [_, _], _ => rfl, PySem.W.mg_of X G a_law_cell⟩
  have F_law_draws := fun_mk (st := s_law_draws) l_law_draws c_law_draws k_law_draws
  have T_law_draws : Fn K mg "_law_draws" s_law_draws ["_law_cell_here", "_law_many"] _ _ := ⟨F_law_draws, F_law_draws.binds (ps := ["_law_cell_here", "_law_many"]) fun _ _ _ _ _ _ us hl => match us, hl with | [_, _], _ => rfl, PySem.W.mg_of X G a_law_draws⟩
  have F_law_same := fun_mk (st := s_law_same) l_law_same c_law_same k_law_same
  have T_law_same : Fn K mg "_law_same" s_law_same ["_law_told_here", "_law_wanted"] _ _ := ⟨F_law_same, F_law_same.binds (ps := ["_law_told_here", "_law_wanted"]) fun _ _ _ _ _ _ us hl => match us, hl with | [_, _], _ => rfl, PySem.W.mg_of X G a_law_same⟩
  have F_law_words := fun_mk (st := s_law_words) l_law_words c_law_words k_law_words
  have T_law_words : Fn K mg "_law_words" s_law_words ["_law_cell_here", "_law_many"] _ _ := ⟨F_law_words, F_law_words.binds (ps := ["_law_cell_here", "_law_many"]) fun _ _ _ _ _ _ us hl => match us, hl with | [_, _], _ => rfl, PySem.W.mg_of X G a_law_words⟩
  have F_law_layer := fun_mk (st := s_law_layer) l_law_layer c_law_layer k_law_layer
  have T_law_layer : Fn K mg "_law_layer" s_law_layer ["_law_cell_here", "_law_crew", "_law_days", "_law_size"] _ _ := ⟨F_law_layer, F_law_layer.binds (ps := ["_law_cell_here", "_law_crew", "_law_days", "_law_size"]) fun _ _ _ _ _ _ us hl => match us, hl with | [_, _, _, _], _ => rfl, PySem.W.mg_of X G a_law_layer⟩
  have F_law_rota := fun_mk (st := s_law_rota) l_law_rota c_law_rota k_law_rota
  have T_law_rota : Fn K mg "_law_rota" s_law_rota ["_law_script", "_law_at", "_law_name", "_law_crew", "_law_days", "_law_size"] _ _ := ⟨F_law_rota, F_law_rota.binds (ps := ["_law_script", "_law_at", "_law_name", "_law_crew", "_law_days", "_law_size"]) fun _ _ _ _ _ _ us hl => match us, hl with | [_, _, _, _, _, _], _ => rfl, PySem.W.mg_of X G a_law_rota⟩
  have F_law_edge := fun_mk (st := s_law_edge) l_law_edge c_law_edge k_law_edge
  have T_law_edge : Fn K mg "_law_edge" s_law_edge ["_law_script", "_law_at", "_law_name", "_law_crew", "_law_days"] _ _ := ⟨F_law_edge, F_law_edge.binds (ps := ["_law_script", "_law_at", "_law_name", "_law_crew", "_law_days"]) fun _ _ _ _ _ _ us hl => match us, hl with | [_, _, _, _, _], _ => rfl, PySem.W.mg_of X G a_law_edge⟩
  have F_law_world := fun_mk (st := s_law_world) l_law_world c_law_world k_law_world
  have T_law_world : Fn K mg "_law_world" s_law_world ["_law_script"] _ _ := ⟨F_law_world, F_law_world.binds (ps := ["_law_script"]) fun _ _ _ _ _ _ us hl => match us, hl with | [_], _ => rfl, PySem.W.mg_of X G a_law_world⟩
  have F_law_any := fun_mk (st := s_law_any) l_law_any c_law_any k_law_any
  have T_law_any : Fn K mg "_law_any" s_law_any ["_law_script", "_law_at", "_law_name", "_law_crew", "_law_days", "_law_edge_here"] _ _ := ⟨F_law_any, F_law_any.binds (ps := ["_law_script", "_law_at", "_law_name", "_law_crew", "_law_days", "_law_edge_here"]) fun _ _ _ _ _ _ us hl => match us, hl with | [_, _, _, _, _, _], _ => rfl, PySem.W.mg_of X G a_law_any⟩
  have F_law_inside := fun_mk (st := s_law_inside) l_law_inside c_law_inside k_law_inside
  have T_law_inside : Fn K mg "_law_inside" s_law_inside ["_law_days", "_law_spans", "_law_time_here"] _ _ := ⟨F_law_inside, F_law_inside.binds (ps := ["_law_days", "_law_spans", "_law_time_here"]) fun _ _ _ _ _ _ us hl => match us, hl with | [_, _, _], _ => rfl, PySem.W.mg_of X G a_law_inside⟩
  have F_law_member := fun_mk (st := s_law_member) l_law_member c_law_member k_law_member
  have T_law_member : Fn K mg "_law_member" s_law_member ["_law_days", "_law_layer_here", "_law_time_here"] _ _ := ⟨F_law_member, F_law_member.binds (ps := ["_law_days", "_law_layer_here", "_law_time_here"]) fun _ _ _ _ _ _ us hl => match us, hl with | [_, _, _], _ => rfl, PySem.W.mg_of X G a_law_member⟩
  have F_law_on := fun_mk (st := s_law_on) l_law_on c_law_on k_law_on
  have T_law_on : Fn K mg "_law_on" s_law_on ["_law_days", "_law_rota_here", "_law_time_here"] _ _ := ⟨F_law_on, F_law_on.binds (ps := ["_law_days", "_law_rota_here", "_law_time_here"]) fun _ _ _ _ _ _ us hl => match us, hl with | [_, _, _], _ => rfl, PySem.W.mg_of X G a_law_on⟩
  have F_law_lcm := fun_mk (st := s_law_lcm) l_law_lcm c_law_lcm k_law_lcm
  have T_law_lcm : Fn K mg "_law_lcm" s_law_lcm ["_law_one", "_law_other"] _ _ := ⟨F_law_lcm, F_law_lcm.binds (ps := ["_law_one", "_law_other"]) fun _ _ _ _ _ _ us hl => match us, hl with | [_, _], _ => rfl, PySem.W.mg_of X G a_law_lcm⟩
  have F_law_period := fun_mk (st := s_law_period) l_law_period c_law_period k_law_period
  have T_law_period : Fn K mg "_law_period" s_law_period ["_law_days", "_law_rota_here"] _ _ := ⟨F_law_period, F_law_period.binds (ps := ["_law_days", "_law_rota_here"]) fun _ _ _ _ _ _ us hl => match us, hl with | [_, _], _ => rfl, PySem.W.mg_of X G a_law_period⟩
  have F_law_settled := fun_mk (st := s_law_settled) l_law_settled c_law_settled k_law_settled
  have T_law_settled : Fn K mg "_law_settled" s_law_settled ["_law_rota_here"] _ _ := ⟨F_law_settled, F_law_settled.binds (ps := ["_law_rota_here"]) fun _ _ _ _ _ _ us hl => match us, hl with | [_], _ => rfl, PySem.W.mg_of X G a_law_settled⟩
  have F_law_time := fun_mk (st := s_law_time) l_law_time c_law_time k_law_time
  have T_law_time : Fn K mg "_law_time" s_law_time ["_law_cell_here"] _ _ := ⟨F_law_time, F_law_time.binds (ps := ["_law_cell_here"]) fun _ _ _ _ _ _ us hl => match us, hl with | [_], _ => rfl, PySem.W.mg_of X G a_law_time⟩
  have F_law_firsts := fun_mk (st := s_law_firsts) l_law_firsts c_law_firsts k_law_firsts
  have T_law_firsts : Fn K mg "_law_firsts" s_law_firsts ["_law_days", "_law_rota_here", "_law_time_here"] _ _ := ⟨F_law_firsts, F_law_firsts.binds (ps := ["_law_days", "_law_rota_here", "_law_time_here"]) fun _ _ _ _ _ _ us hl => match us, hl with | [_, _, _], _ => rfl, PySem.W.mg_of X G a_law_firsts⟩
  have F_law_told := fun_mk (st := s_law_told) l_law_told c_law_told k_law_told
  have T_law_told : Fn K mg "_law_told" s_law_told ["_law_days", "_law_rota_here", "_law_time_here"] _ _ := ⟨F_law_told, F_law_told.binds (ps := ["_law_days", "_law_rota_here", "_law_time_here"]) fun _ _ _ _ _ _ us hl => match us, hl with | [_, _, _], _ => rfl, PySem.W.mg_of X G a_law_told⟩
  have F_law := fun_mk (st := s_law) l_law c_law k_law
  have T_law : Fn K mg "law" s_law ["_law_script"] _ _ := ⟨F_law, F_law.binds (ps := ["_law_script"]) fun _ _ _ _ _ _ us hl => match us, hl with | [_], _ => rfl, PySem.W.mg_of X G a_law⟩
  exact ⟨PySem.W.fnOf "law" "law" (defArgs s_law) (defBody s_law) (defScope s_law) .none kV_law dc_law pm_law an_law cd_law ct_law, fun s v => .of_eq rfl, fun base _ _ => spL_ok (cm := cm) (ok_law Bz ⟨trivial, PySem.W.mg_of X G v_MOST_PERIOD⟩ ⟨trivial, PySem.W.mg_of X G v_lcm⟩ T_law_world T_law_draws T_law_cell T_law_words T_law_any T_law_edge T_law_rota T_law_layer T_law_time T_law_period T_law_lcm T_law_firsts T_law_settled T_law_on T_law_member T_law_inside T_law_same T_law_told T_ever_on_call T_bounded T_period T_settled T_stretches T_on_call T_on_layer T_in_spans T_next_break T_layer_breaks T_law)⟩
end K53
namespace K53
open PySem PySem.Spec PyProof.Rows L2 Pl
theorem draws_eq : law_draws_f = drawsF := rfl
theorem same_rows (n : Nat) (ih : ∀ x : D, wfD n x = true → law_same_r n [x, x] = .ok (.d (.bool true))) (xs : List D) (hx : ∀ y ∈ xs, wfD n y = true) (v : SV) (hv : v = .d (.list xs) ∨ v = .d (.tuple xs)) :
    forF (setD 2) (law_same_w1 (law_same_r n)) (rng 0 xs.length) [some v, some v, none] = .ok (.nx [some v, some v, none]) := by
  obtain ⟨ρ', h1, h2⟩ := forF_inv (k := setD 2) (b := law_same_w1 (law_same_r n)) (fun _ ρ => ρ = [some v, some v, none]) (rng 0 xs.length) _ rfl (by
    rintro i x _ hi rfl
    obtain ⟨rfl, hlt⟩ := rng_at hi
    have hlt' : i < xs.length := by omega
    have e : atI xs (i : Int) = some (xs[i]'hlt') := atI_nat (List.getElem?_eq_getElem hlt')
    have ih' := ih (xs[i]'hlt') (hx _ (List.getElem_mem _))
    refine ⟨_, [some v, some v, none], rfl, .inl ?_, rfl⟩
    unfold law_same_w1
    rcases hv with rfl | rfl <;> simp [e, ih'])
  subst h2; exact h1
theorem same_ok (n : Nat) : ∀ (x : D), wfD n x = true → law_same_r n [x, x] = .ok (.d (.bool true)) := by
  induction n with
  | zero => intro x h; cases h
  | succ n ih =>
    intro x h
    unfold law_same_r runB law_same_b startE
    cases x with
    | none => simp
    | bool b => simp
    | int i => simp
    | str s => simp
    | list xs =>
      simp only [wfD, Bool.and_eq_true, List.all_eq_true, decide_eq_true_eq] at h
      have hr := same_rows n ih xs h.2 _ (.inl rfl)
      have hb : okR (xs.length : Int) = true := okR_of (by omega) (by have := h.1; omega)
      simp [hr, hb]
    | tuple xs =>
      simp only [wfD, Bool.and_eq_true, List.all_eq_true, decide_eq_true_eq] at h
      have hr := same_rows n ih xs h.2 _ (.inr rfl)
      have hb : okR (xs.length : Int) = true := okR_of (by omega) (by have := h.1; omega)
      simp [hr, hb]
    | dict xs => cases h
theorem cell2_ok (ns : List Int) (k : Int) (hk : 0 ≤ k) : ∃ c : Int, law_cell_f [.list (ns.map PyData.int), .int k] = .ok (.d (.int c)) := by
  unfold law_cell_f runB law_cell_b startE
  by_cases h : k < ns.length
  · have e : atI (ns.map PyData.int) k = some (.int (ns[k.toNat]'(by omega))) := by
      rw [atI_of hk (by simpa using h)]; simp
    exact ⟨_, by simp [h, e]; rfl⟩
  · by_cases h0 : 0 < (ns.length : Int)
    · have hm := Int.emod_nonneg k (show (ns.length : Int) ≠ 0 by omega)
      have hm2 := Int.emod_lt_of_pos k h0
      have e : atI (ns.map PyData.int) (k % ns.length) = some (.int (ns[(k % ns.length).toNat]'(by omega))) := by
        rw [atI_of hm (by simpa using hm2)]; simp
      have h0' : 0 < ns.length := by omega
      exact ⟨_, by simp [h, h0, h0', e]; rfl⟩
    · have h0' : ¬ 0 < ns.length := by omega
      exact ⟨_, by simp [h, h0, h0']; rfl⟩
theorem words_ok (c m : Int) (h0 : 0 ≤ m) (hm : m ≤ 1000) : ∃ ws : List Str, law_words_f [.int c, .int m] = .ok (.ol (ws.map PyData.str)) ∧ ws.length = m.toNat ∧ ∀ w ∈ ws, w.length ≤ 8 := by
  have hz := line16
  have hp := imodN (c / 26) 4 (by omega)
  have l3 : ("xyz" : Str).length = 3 := by decide +kernel
  have l4 : ("xyzw" : Str).length = 4 := by decide +kernel
  have l26 : ("abcdefghijklmnopqrstuvwxyz" : Str).length = 26 := by decide +kernel
  obtain ⟨ws, e1, e2, e3⟩ := lcF_ex PyData.str (fun w : Str => w.length ≤ 8) (k := setD 4)
    (e := (bin addS (bin addS (slice (kon (.str "xyz")) noO (someO (peek 3))) (bin ixS (peek 2) (bin modS (callB intS (conB (bin addS (callB intS (conB (peek 0) nilB)) (bin mulA (kon (.int 3)) (peek 4))) nilB)) (kon (.int 26))))) (slice (kon (.str "xyzw")) (someO (peek 3)) noO)))
    (ρ0 := [some (.d (.int c)), some (.d (.int m)), some (.d (.str "abcdefghijklmnopqrstuvwxyz")), some (.d (.int (c / 26 % 4))), none]) (rng 0 m) (by
      intro x hx
      obtain ⟨i, rfl, hi⟩ := rng_mem hx
      have hi2 := imodN (c + 3 * i) 26 (by omega)
      obtain ⟨ch, ec, lc⟩ := ixS_s "abcdefghijklmnopqrstuvwxyz" ((c + 3 * i) % 26) (by rw [l26]; omega) hi2.1 (by rw [l26]; omega)
      have la := cutS_len "xyz" none (some (c / 26 % 4))
      have lb := cutS_len "xyzw" (some (c / 26 % 4)) none
      rw [l3] at la; rw [l4] at lb
      have lab := len_app (cutS "xyz" none (some (c / 26 % 4))) ch
      have labc := len_app (cutS "xyz" none (some (c / 26 % 4)) ++ ch) (cutS "xyzw" (some (c / 26 % 4)) none)
      have ea := addS_s (cutS "xyz" none (some (c / 26 % 4))) ch (by omega) (by omega)
      have eb := addS_s (cutS "xyz" none (some (c / 26 % 4)) ++ ch) (cutS "xyzw" (some (c / 26 % 4)) none) (by omega) (by omega)
      have sa := slS_s "xyz" none (some (c / 26 % 4)) (by rw [l3]; omega)
      have sb := slS_s "xyzw" (some (c / 26 % 4)) none (by rw [l4]; omega)
      exact ⟨_, .d (.str (cutS "xyz" none (some (c / 26 % 4)) ++ ch ++ cutS "xyzw" (some (c / 26 % 4)) none)), _, rfl, by simp [ec, ea, eb, sa, sb], rfl, by omega⟩)
  refine ⟨ws, ?_, by rw [e2, rng_len]; congr 1; omega, e3⟩
  have hl : m.toNat < sizeLine := by omega
  have hR : okR m = true := okR_of (by omega) (by omega)
  unfold law_words_f runB law_words_b startE
  simp [hR, hl, e1]
structure Lay where
  mem : List Str
  st : Int
  sh : Int
  sp : List (Int × Int)
def encS (p : Int × Int) : D := .tuple [.int p.1, .int p.2]
def encL (l : Lay) : D := .tuple [.tuple (l.mem.map PyData.str), .int l.st, .int l.sh, .tuple (l.sp.map encS)]
structure Lay.Ok (l : Lay) : Prop where
  mem : 0 < l.mem.length
  mem2 : l.mem.length ≤ 10
  st : 0 ≤ l.st
  st2 : l.st ≤ 5000
  sh : 0 < l.sh
  sh2 : l.sh ≤ 1000
  sp : l.sp.length ≤ 6
def insB (w t : Int) (sp : List (Int × Int)) : Bool := sp.any fun p => decide (p.1 ≤ t % w) && decide (t % w < p.2)
def encO : Option Str → D
  | none => .none
  | some s => .str s
def whoL (w t : Int) (l : Lay) : Option Str :=
  if t < l.st then none else if l.sp ≠ [] ∧ insB w t l.sp = false then none else l.mem[((t - l.st) / l.sh % l.mem.length).toNat]?
structure Rot where
  nm : Str
  ls : List Lay
  ss : List (Int × Int × Str)
def encT (p : Int × Int × Str) : D := .tuple [.int p.1, .int p.2.1, .str p.2.2]
def encR (r : Rot) : D := .tuple [.str r.nm, .tuple (r.ls.map encL), .tuple (r.ss.map encT)]
structure Rot.Ok (r : Rot) : Prop where
  ls : ∀ l ∈ r.ls, l.Ok
  ll : r.ls.length ≤ 6
  sl : r.ss.length ≤ 20
def subF (t : Int) (p : Int × Int × Str) : Option Str := if p.1 ≤ t ∧ t < p.2.1 then some p.2.2 else none
def whoR (w t : Int) (r : Rot) : Option Str := (r.ss.reverse.findSome? (subF t)).or (r.ls.reverse.findSome? (whoL w t))
theorem inside_ok (w t : Int) (sp : List (Int × Int)) (hw : 0 < w) : law_inside_f [.int w, .tuple (sp.map encS), .int t] = .ok (.d (.bool (insB w t sp))) := by
  have h : ∀ (u : List (Int × Int)) (L : List D), forF (tupG 2 (gsC (setD 3) (gsC (setD 4) gsN))) law_inside_w1 (u.map encS) [some (.d (.int w)), some (.d (.tuple L)), some (.d (.int t)), none, none]
      = (if insB w t u = true then .ok (.rt (.d (.bool true))) else .ok (.nx [some (.d (.int w)), some (.d (.tuple L)), some (.d (.int t)), none, none])) := by
    intro u L
    induction u with
    | nil => rfl
    | cons p r ih =>
      obtain ⟨a, b⟩ := p
      rw [List.map_cons, forF]
      have e0 : insB w t ((a, b) :: r) = ((decide (a ≤ t % w) && decide (t % w < b)) || insB w t r) := rfl
      rw [e0]
      have e1 : tupG 2 (gsC (setD 3) (gsC (setD 4) gsN)) (encS (a, b)) [some (.d (.int w)), some (.d (.tuple L)), some (.d (.int t)), none, none] = .ok [some (.d (.int w)), some (.d (.tuple L)), some (.d (.int t)), some (.d (.int a)), some (.d (.int b))] := rfl
      simp only [e1, ok_bind]
      by_cases h1 : a ≤ t % w
      · by_cases h2 : t % w < b
        · unfold law_inside_w1
          simp [hw, h1, h2]
        · have e2 : law_inside_w1 [some (.d (.int w)), some (.d (.tuple L)), some (.d (.int t)), some (.d (.int a)), some (.d (.int b))] = .ok (.nx [some (.d (.int w)), some (.d (.tuple L)), some (.d (.int t)), none, none]) := by
            unfold law_inside_w1
            simp [hw, h1, h2]
          simp only [e2, ok_bind, h1, h2, decide_true, decide_false, Bool.and_false, Bool.false_or]
          exact ih
      · have e2 : law_inside_w1 [some (.d (.int w)), some (.d (.tuple L)), some (.d (.int t)), some (.d (.int a)), some (.d (.int b))] = .ok (.nx [some (.d (.int w)), some (.d (.tuple L)), some (.d (.int t)), none, none]) := by
          unfold law_inside_w1
          simp [hw, h1]
        simp only [e2, ok_bind, h1, decide_false, Bool.false_and, Bool.false_or]
        exact ih
  have h' := h sp (sp.map encS)
  unfold law_inside_f runB law_inside_b startE
  cases hb : insB w t sp with
  | true => rw [hb] at h'; simp [h']
  | false => rw [hb] at h'; simp [h']
theorem in_spans_ok (w t : Int) (sp : List (Int × Int)) (hw : 0 < w) (hl : sp.length ≤ 1000) : in_spans_f [.int w, .tuple (sp.map encS), .int t] = .ok (.d (.bool (insB w t sp))) := by
  have hz := line16
  have hl' : sp.length < sizeLine := by omega
  have h : ∀ u : List (Int × Int), lcF (tupG 2 (gsC (setD 3) (gsC (setD 4) gsN))) yesT (chain leS ltS (peek 3) (bin modS (peek 2) (peek 0)) (peek 4)) [some (.d (.int w)), some (.d (.tuple (sp.map encS))), some (.d (.int t)), none, none] (u.map encS) = .ok ((u.map fun p => decide (p.1 ≤ t % w) && decide (t % w < p.2)).map PyData.bool) := by
    intro u
    induction u with
    | nil => rfl
    | cons p r ih =>
      obtain ⟨a, b⟩ := p
      rw [List.map_cons, List.map_cons, List.map_cons]
      unfold lcF
      have e1 : tupG 2 (gsC (setD 3) (gsC (setD 4) gsN)) (encS (a, b)) [some (.d (.int w)), some (.d (.tuple (sp.map encS))), some (.d (.int t)), none, none] = .ok [some (.d (.int w)), some (.d (.tuple (sp.map encS))), some (.d (.int t)), some (.d (.int a)), some (.d (.int b))] := rfl
      rw [e1, ih]
      by_cases h1 : a ≤ t % w
      · simp [hw, h1]
      · simp [hw, h1]
  have h' := h sp
  have ha := anyS_ol (sp.map fun p => decide (p.1 ≤ t % w) && decide (t % w < p.2))
  have hi : (sp.map fun p => decide (p.1 ≤ t % w) && decide (t % w < p.2)).any id = insB w t sp := by
    unfold insB; rw [List.any_map]; rfl
  rw [hi] at ha
  unfold in_spans_f runB in_spans_b startE
  simp [h', ha, hl', -List.map_map]
theorem mem_at (l : Lay) (k : Int) (h : l.Ok) : ∃ s, l.mem[(k % l.mem.length).toNat]? = some s ∧ atI (l.mem.map PyData.str) (k % l.mem.length) = some (.str s) := by
  have hm := imodN k l.mem.length (by have := h.mem; omega)
  obtain ⟨s, hs⟩ : ∃ s, l.mem[(k % l.mem.length).toNat]? = some s := ⟨_, List.getElem?_eq_getElem (by omega)⟩
  exact ⟨s, hs, atI_map' _ _ _ _ hm.1 hs⟩
theorem isEm {α β : Type} (f : α → β) (xs : List α) : (xs.map f).isEmpty = decide (xs = []) := by cases xs <;> rfl
theorem on_layer_ok (w t : Int) (l : Lay) (hw : 0 < w) (h : l.Ok) : on_layer_f [.int w, encL l, .int t] = .ok (.d (encO (whoL w t l))) := by
  have hi := in_spans_ok w t l.sp hw (by have := h.sp; omega)
  obtain ⟨s, hs, he⟩ := mem_at l ((t - l.st) / l.sh) h
  have h1 := h.sh
  have h2 : l.sh < 1073741824 := by have := h.sh2; omega
  have h3 := h.mem
  have h4 : (0 : Int) < l.mem.length := by omega
  unfold on_layer_f runB on_layer_b startE whoL encL
  by_cases c1 : t < l.st
  · simp [c1, encO]
  · by_cases c2 : l.sp = []
    · simp [c1, c2, encO, hs, he, h1, h2, h3, h4]
    · cases c3 : insB w t l.sp with
      | true => simp [c1, c2, c3, isEm, hi, encO, hs, he, h1, h2, h3, h4]
      | false => simp [c1, c2, c3, isEm, hi, encO, hs, he, h1, h2, h3, h4]
theorem member_ok (w t : Int) (l : Lay) (hw : 0 < w) (h : l.Ok) : law_member_f [.int w, encL l, .int t] = .ok (.d (encO (whoL w t l))) := by
  have hi := inside_ok w t l.sp hw
  obtain ⟨s, hs, he⟩ := mem_at l ((t - l.st) / l.sh) h
  have h1 := h.sh
  have h2 : l.sh < 1073741824 := by have := h.sh2; omega
  have h3 := h.mem
  have h4 : (0 : Int) < l.mem.length := by omega
  unfold law_member_f runB law_member_b startE whoL encL
  by_cases c1 : t < l.st
  · simp [c1, encO]
  · by_cases c2 : l.sp = []
    · simp [c1, c2, encO, hs, he, h1, h2, h3, h4]
    · have c2' : 0 < l.sp.length := by cases q : l.sp with | nil => exact absurd q c2 | cons _ _ => simp
      cases c3 : insB w t l.sp with
      | true => simp [c1, c2, c2', c3, isEm, hi, encO, hs, he, h1, h2, h3, h4]
      | false => simp [c1, c2, c2', c3, isEm, hi, encO, hs, he, h1, h2, h3, h4]
def SpOk (w : Int) (p : Int × Int) : Prop := 0 ≤ p.1 ∧ p.1 < p.2 ∧ p.2 ≤ w
theorem layer_w1_ok (c crew size many st sh so : SV) (days k : Int) (ns : List Int) (sp : List (Int × Int)) (hd : 0 < days) (hn : ns.length = 40) (h0 : 0 ≤ k) (hk : k < 6) (hs : sp.length < 10) :
    ∃ p, SpOk days p ∧ law_layer_w1 [some c, some crew, some (.d (.int days)), some size, some (.ol (ns.map PyData.int)), some many, some st, some sh, some so, some (.ol (sp.map encS)), some (.d (.int k)), none, none]
      = .ok (.nx [some c, some crew, some (.d (.int days)), some size, some (.ol (ns.map PyData.int)), some many, some st, some sh, some so, some (.ol ((sp ++ [p]).map encS)), none, none, none]) := by
  have hz := line16
  obtain ⟨a, _, ha⟩ := atI_ints ns (16 + 4 * k) (by omega) (by omega)
  obtain ⟨b, _, hb⟩ := atI_ints ns (17 + 4 * k) (by omega) (by omega)
  obtain ⟨e, _, he⟩ := atI_ints ns (18 + 4 * k) (by omega) (by omega)
  obtain ⟨f, _, hf⟩ := atI_ints ns (19 + 4 * k) (by omega) (by omega)
  have hm := imodN (a * 1000 + b) days hd
  have hm2 : (a * 1000 + b) % days < days := hm.2
  have hl : sp.length < sizeLine := by omega
  have hm3 := imodN (e * 1000 + f) (days - (a * 1000 + b) % days) (by omega)
  refine ⟨((a * 1000 + b) % days, (a * 1000 + b) % days + 1 + (e * 1000 + f) % (days - (a * 1000 + b) % days)), ⟨hm.1, by show _ < _ + 1 + _; omega, by show _ + 1 + _ ≤ _; omega⟩, ?_⟩
  unfold law_layer_w1
  generalize hg : (a * 1000 + b) % days = g at *
  have hp : 0 < days - g := by omega
  have hp2 : g < days := by omega
  simp [ha, hb, he, hf, hd, hg, hp, hp2, hl, encS]
theorem layer_mem_ok (c size many st sh so sp : SV) (days n : Int) (crew : List Str) (ns : List Int) (hn : ns.length = 40) (h0 : 0 ≤ n) (hk : n ≤ 10) (hc : 0 < crew.length) :
    ∃ ms : List Str, lcF (setD 10) yesT (bin ixS (peek 1) (bin modS (callB intS (conB (bin ixS (peek 4) (bin addS (kon (.int 6)) (peek 10))) nilB)) (callB lenS (conB (peek 1) nilB))))
      [some c, some (.d (.list (crew.map PyData.str))), some (.d (.int days)), some size, some (.ol (ns.map PyData.int)), some many, some st, some sh, some so, some sp, none, none, none] (rng 0 n) = .ok (ms.map PyData.str) ∧ ms.length = n.toNat ∧ ∀ m ∈ ms, m ∈ crew := by
  obtain ⟨ms, h1, h2, h3⟩ := lcF_ex PyData.str (fun m => m ∈ crew) (k := setD 10) (e := bin ixS (peek 1) (bin modS (callB intS (conB (bin ixS (peek 4) (bin addS (kon (.int 6)) (peek 10))) nilB)) (callB lenS (conB (peek 1) nilB))))
    (ρ0 := [some c, some (.d (.list (crew.map PyData.str))), some (.d (.int days)), some size, some (.ol (ns.map PyData.int)), some many, some st, some sh, some so, some sp, none, none, none]) (rng 0 n) (by
      intro x hx
      obtain ⟨i, rfl, hi⟩ := rng_mem hx
      obtain ⟨a, _, ha⟩ := atI_ints ns (6 + i) (by omega) (by omega)
      have hc' : (0 : Int) < crew.length := by omega
      have hm := imodN a crew.length hc'
      obtain ⟨m, hm1, hm2⟩ := atI_map PyData.str crew (a % crew.length) hm.1 hm.2
      exact ⟨_, .d (.str m), m, rfl, by simp [ha, hc, hc', hm2], rfl, hm1⟩)
  exact ⟨ms, h1, by rw [h2, rng_len]; congr 1; omega, h3⟩
def layA : En → R Fl :=
    (seqS (asgS 5 (bin addS (kon (.int 1)) (bin modS (callB intS (conB (bin ixS (peek 4) (kon (.int 0))) nilB)) (kon (.int 3)))))
    (seqS (asgS 6 (bin modS (callB intS (conB (bin ixS (peek 4) (kon (.int 1))) nilB)) (kon (.int 13))))
    (seqS (asgS 7 (bin addS (kon (.int 1)) (bin modS (callB intS (conB (bin ixS (peek 4) (kon (.int 2))) nilB)) (bin ixS (dispL (conA (kon (.int 4)) (conA (kon (.int 9)) (conA (kon (.int 1000)) nilA)))) (peek 3)))))
    (seqS (asgS 8 (bin modS (callB intS (conB (bin ixS (peek 4) (kon (.int 5))) nilB)) (kon (.int 3))))
    (seqS (ifS (asT (bin (eqS false) (peek 3) (kon (.int 2)))) (seqS (asgS 5 (bin addS (kon (.int 1)) (bin modS (callB intS (conB (bin ixS (peek 4) (kon (.int 0))) nilB)) (kon (.int 10)))))
    (seqS (asgS 6 (bin modS (callB intS (conB (bin addS (bin mulA (bin ixS (peek 4) (kon (.int 1))) (kon (.int 1000))) (bin ixS (peek 4) (kon (.int 3)))) nilB)) (kon (.int 2001))))
    (asgS 8 (bin modS (callB intS (conB (bin ixS (peek 4) (kon (.int 5))) nilB)) (kon (.int 7)))))) skip)
    (asgS 9 (dispL nilA)))))))
theorem layA_ok (c crew days : SV) (size : Int) (ns : List Int) (hn : ns.length = 40) (hs : size = 0 ∨ size = 1 ∨ size = 2) :
    ∃ many st sh so : Int, layA [some c, some crew, some days, some (.d (.int size)), some (.ol (ns.map PyData.int)), none, none, none, none, none, none, none, none] = .ok (.nx [some c, some crew, some days, some (.d (.int size)), some (.ol (ns.map PyData.int)), some (.d (.int many)), some (.d (.int st)), some (.d (.int sh)), some (.d (.int so)), some (.ol []), none, none, none])
      ∧ 0 < many ∧ many ≤ 10 ∧ 0 ≤ st ∧ st ≤ 2000 ∧ 0 < sh ∧ sh ≤ 1000 ∧ 0 ≤ so ∧ so ≤ 6 ∧ (size ≠ 2 → st ≤ 100) := by
  obtain ⟨a0, _, h0⟩ := atI_ints ns 0 (by omega) (by omega)
  obtain ⟨a1, _, h1⟩ := atI_ints ns 1 (by omega) (by omega)
  obtain ⟨a2, _, h2⟩ := atI_ints ns 2 (by omega) (by omega)
  obtain ⟨a3, _, h3⟩ := atI_ints ns 3 (by omega) (by omega)
  obtain ⟨a5, _, h5⟩ := atI_ints ns 5 (by omega) (by omega)
  unfold layA
  rcases hs with rfl | rfl | rfl
  · exact ⟨1 + a0 % 3, a1 % 13, 1 + a2 % 4, a5 % 3, by simp [h0, h1, h2, h3, h5], by omega, by omega, by omega, by omega, by omega, by omega, by omega, by omega, by omega⟩
  · exact ⟨1 + a0 % 3, a1 % 13, 1 + a2 % 9, a5 % 3, by simp [h0, h1, h2, h3, h5], by omega, by omega, by omega, by omega, by omega, by omega, by omega, by omega, by omega⟩
  · exact ⟨1 + a0 % 10, (a1 * 1000 + a3) % 2001, 1 + a2 % 1000, a5 % 7, by simp [h0, h1, h2, h3, h5], by omega, by omega, by omega, by omega, by omega, by omega, by omega, by omega, by omega⟩
theorem layer_eq : law_layer_b = (seqS (asgS 4 (callF 2 law_draws_f (conA (getV 0) (conA (kon (.int 40)) nilA)))) (seqS layA
    (seqS (forS (rngD1 (conB (peek 8) nilB)) (setD 10) law_layer_w1)
    (seqS (asgS 12 (lcE (rngD1 (conB (peek 5) nilB)) (setD 10) yesT (bin ixS (peek 1) (bin modS (callB intS (conB (bin ixS (peek 4) (bin addS (kon (.int 6)) (peek 10))) nilB)) (callB lenS (conB (peek 1) nilB)))) [10]))
    (frzS [7] (retS (dispT (conA (callB tupS (conB (peek 12) nilB)) (conA (getV 6) (conA (getV 7) (conA (callB tupS (conB (peek 9) nilB)) nilA)))))))))))  := by
  unfold layA
  simp only [seqS_assoc]
  rfl
theorem layer_ok (c days size : Int) (crew : List Str) (hd : 0 < days) (hs : size = 0 ∨ size = 1 ∨ size = 2) (hc : 0 < crew.length) :
    ∃ l : Lay, law_layer_f [.int c, .list (crew.map PyData.str), .int days, .int size] = .ok (.d (encL l)) ∧ l.Ok ∧ (∀ m ∈ l.mem, m ∈ crew) ∧ (∀ p ∈ l.sp, SpOk days p) ∧ (size ≠ 2 → l.st ≤ 100) := by
  have hz := line16
  obtain ⟨ns, d1, d2, _⟩ := draws_ok c 40 (by omega) (by omega)
  have hn : ns.length = 40 := by simpa using d2
  obtain ⟨many, st, sh, so, a1, b1, b2, b3, b3', b4, b5, b6, b7, b8⟩ := layA_ok (.d (.int c)) (.d (.list (crew.map PyData.str))) (.d (.int days)) size ns hn hs
  obtain ⟨ρ', e1, sp, e2, e3, e4⟩ := forF_inv (k := setD 10) (b := law_layer_w1) (fun i ρ => ∃ sp : List (Int × Int), ρ = [some (.d (.int c)), some (.d (.list (crew.map PyData.str))), some (.d (.int days)), some (.d (.int size)), some (.ol (ns.map PyData.int)), some (.d (.int many)), some (.d (.int st)), some (.d (.int sh)), some (.d (.int so)), some (.ol (sp.map encS)), none, none, none] ∧ sp.length = i ∧ ∀ p ∈ sp, SpOk days p) (rng 0 so) _ ⟨[], rfl, rfl, fun _ h => nomatch h⟩ (by
    rintro i x _ hx ⟨sp, rfl, hl, hsp⟩
    obtain ⟨rfl, hi⟩ := rng_at hx
    obtain ⟨p, hpo, hp⟩ := layer_w1_ok (.d (.int c)) (.d (.list (crew.map PyData.str))) (.d (.int size)) (.d (.int many)) (.d (.int st)) (.d (.int sh)) (.d (.int so)) days (0 + (i : Nat)) ns sp hd hn (by omega) (by omega) (by omega)
    exact ⟨_, _, rfl, .inl hp, sp ++ [p], rfl, by simp [hl], fun q hq => by rcases List.mem_append.mp hq with z | z; exact hsp q z; rw [List.mem_singleton.mp z]; exact hpo⟩)
  subst e2
  rw [rng_len] at e3
  rw [List.map_nil] at e1
  obtain ⟨ms, m1, m2, m3⟩ := layer_mem_ok (.d (.int c)) (.d (.int size)) (.d (.int many)) (.d (.int st)) (.d (.int sh)) (.d (.int so)) (.ol (sp.map encS)) days many crew ns hn (by omega) b2 hc
  refine ⟨⟨ms, st, sh, sp⟩, ?_, ⟨by show 0 < ms.length; omega, by show ms.length ≤ 10; omega, b3, by show st ≤ 5000; omega, b4, b5, by show sp.length ≤ 6; omega⟩, m3, e4, b8⟩
  have hR : okR so = true := okR_of (by omega) (by omega)
  have hR2 : okR many = true := okR_of (by omega) (by omega)
  have hl : many.toNat < sizeLine := by omega
  rw [draws_eq.symm] at d1
  unfold law_layer_f runB startE
  rw [layer_eq]
  have hb : ∀ ρ, ρ = [some (.d (.int c)), some (.d (.list (crew.map PyData.str))), some (.d (.int days)), some (.d (.int size)), none, none, none, none, none, none, none, none, none] → (seqS (asgS 4 (callF 2 law_draws_f (conA (getV 0) (conA (kon (.int 40)) nilA)))) (seqS layA
    (seqS (forS (rngD1 (conB (peek 8) nilB)) (setD 10) law_layer_w1)
    (seqS (asgS 12 (lcE (rngD1 (conB (peek 5) nilB)) (setD 10) yesT (bin ixS (peek 1) (bin modS (callB intS (conB (bin ixS (peek 4) (bin addS (kon (.int 6)) (peek 10))) nilB)) (callB lenS (conB (peek 1) nilB)))) [10]))
    (frzS [7] (retS (dispT (conA (callB tupS (conB (peek 12) nilB)) (conA (getV 6) (conA (getV 7) (conA (callB tupS (conB (peek 9) nilB)) nilA))))))))))) ρ = .ok (.rt (.d (encL ⟨ms, st, sh, sp⟩))) := by
    rintro _ rfl
    refine seq_nx (asg_nx (r := .ol (ns.map PyData.int)) (by simpa using d1) rfl) (seq_nx a1 (seq_nx (ρ1 := [some (.d (.int c)), some (.d (.list (crew.map PyData.str))), some (.d (.int days)), some (.d (.int size)), some (.ol (ns.map PyData.int)), some (.d (.int many)), some (.d (.int st)), some (.d (.int sh)), some (.d (.int so)), some (.ol (sp.map encS)), none, none, none]) (by simp [hR, e1]) (seq_nx (asg_nx (r := .ol (ms.map PyData.str)) (by simp [hR2, hl, m1]) rfl) ?_)))
    simp [encL]
  have hb' := hb _ rfl
  simp only [List.map_cons, List.map_nil, List.length_cons, List.length_nil, Nat.reduceSub, Nat.reduceAdd, List.replicate_succ, List.replicate_zero, List.cons_append, List.nil_append] at hb' ⊢
  rw [hb']; simp
abbrev eC (w t : Int) (r : Rot) (x : Option SV) : En := [some (.d (.int w)), some (.d (encR r)), some (.d (.int t)), none, none, x, none]
theorem on_call_l1 (w t : Int) (r : Rot) (u : List (Int × Int × Str)) : ∀ x, ∃ y, forF (tupG 3 (gsC (setD 3) (gsC (setD 4) (gsC (setD 5) gsN)))) on_call_w1 (u.map encT) (eC w t r x) = (match u.findSome? (subF t) with | some s => .ok (.rt (.d (.str s))) | none => .ok (.nx (eC w t r y))) := by
  induction u with
  | nil => intro x; exact ⟨x, rfl⟩
  | cons p u ih =>
    intro x
    obtain ⟨a, b, s⟩ := p
    obtain ⟨y, hy⟩ := ih (some (.d (.str s)))
    rw [List.map_cons, forF]
    have e1 : tupG 3 (gsC (setD 3) (gsC (setD 4) (gsC (setD 5) gsN))) (encT (a, b, s)) (eC w t r x) = .ok [some (.d (.int w)), some (.d (encR r)), some (.d (.int t)), some (.d (.int a)), some (.d (.int b)), some (.d (.str s)), none] := rfl
    simp only [e1, ok_bind]
    by_cases h : a ≤ t ∧ t < b
    · refine ⟨x, ?_⟩
      have hf : (((a, b, s) :: u).findSome? (subF t)) = some s := by
        rw [List.findSome?_cons, show subF t (a, b, s) = some s from if_pos h]
      rw [hf]
      unfold on_call_w1
      simp [h.1, h.2]
    · have hf : (((a, b, s) :: u).findSome? (subF t)) = u.findSome? (subF t) := by
        rw [List.findSome?_cons, show subF t (a, b, s) = none from if_neg h]
      rw [hf]
      have e2 : on_call_w1 [some (.d (.int w)), some (.d (encR r)), some (.d (.int t)), some (.d (.int a)), some (.d (.int b)), some (.d (.str s)), none] = .ok (.nx (eC w t r (some (.d (.str s))))) := by
        unfold on_call_w1
        by_cases h1 : a ≤ t
        · have h2 : ¬ t < b := fun z => h ⟨h1, z⟩
          simp [h1, h2]
        · simp [h1]
      rw [e2]
      exact ⟨y, hy⟩
theorem on_call_l2 (w t : Int) (r : Rot) (hw : 0 < w) (u : List Lay) : (∀ l ∈ u, l.Ok) → ∀ x, ∃ y, forF (setD 6) on_call_w2 (u.map encL) (eC w t r x) = (match u.findSome? (whoL w t) with | some s => .ok (.rt (.d (.str s))) | none => .ok (.nx (eC w t r y))) := by
  induction u with
  | nil => intro _ x; exact ⟨x, rfl⟩
  | cons l u ih =>
    intro hu x
    have ho := on_layer_ok w t l hw (hu l List.mem_cons_self)
    obtain ⟨y, hy⟩ := ih (fun k hk => hu k (List.mem_cons_of_mem _ hk)) none
    rw [List.map_cons, forF, List.findSome?_cons]
    cases hq : whoL w t l with
    | some s =>
      rw [hq] at ho
      refine ⟨x, ?_⟩
      unfold on_call_w2
      simp [ho, encO]
    | none =>
      rw [hq] at ho
      have e2 : on_call_w2 [some (.d (.int w)), some (.d (encR r)), some (.d (.int t)), none, none, x, some (.d (encL l))] = .ok (.nx (eC w t r none)) := by
        unfold on_call_w2
        simp [ho, encO]
      simp only [setD_ap, List.set_cons_succ, List.set_cons_zero, e2, ok_bind]
      exact ⟨y, hy⟩
theorem on_call_ok (w t : Int) (r : Rot) (hw : 0 < w) (h : r.Ok) : on_call_f [.int w, encR r, .int t] = .ok (.d (encO (whoR w t r))) := by
  obtain ⟨y, h1⟩ := on_call_l1 w t r r.ss.reverse none
  obtain ⟨z, h2⟩ := on_call_l2 w t r hw r.ls.reverse (fun l hl => h.ls l (List.mem_reverse.mp hl)) y
  have ix1 : ixS (.d (encR r)) (.d (.int 1)) = .ok (.d (.tuple (r.ls.map encL))) := rfl
  have ix2 : ixS (.d (encR r)) (.d (.int 2)) = .ok (.d (.tuple (r.ss.map encT))) := rfl
  have v1 : (r.ss.map encT).reverse = r.ss.reverse.map encT := (List.map_reverse).symm
  have v2 : (r.ls.map encL).reverse = r.ls.reverse.map encL := (List.map_reverse).symm
  have hb : ∀ ρ, ρ = eC w t r none → on_call_b ρ = .ok (.rt (.d (encO (whoR w t r)))) := by
    rintro _ rfl
    unfold on_call_b whoR
    have f1 : forS (seqD (una revS (callB listS (conB (bin ixS (peek 1) (kon (.int 2))) nilB)))) (tupG 3 (gsC (setD 3) (gsC (setD 4) (gsC (setD 5) gsN)))) on_call_w1 (eC w t r none) = forF (tupG 3 (gsC (setD 3) (gsC (setD 4) (gsC (setD 5) gsN)))) on_call_w1 (r.ss.reverse.map encT) (eC w t r none) := by
      simp [ix2, v1, -List.map_reverse]
    have f2 : forS (seqD (una revS (callB listS (conB (bin ixS (peek 1) (kon (.int 1))) nilB)))) (setD 6) on_call_w2 (eC w t r y) = forF (setD 6) on_call_w2 (r.ls.reverse.map encL) (eC w t r y) := by
      simp [ix1, v2, -List.map_reverse]
    rw [h1] at f1; rw [h2] at f2
    cases q1 : r.ss.reverse.findSome? (subF t) with
    | some s => rw [q1] at f1; exact seq_rt f1
    | none =>
      rw [q1] at f1
      refine seq_nx f1 ?_
      cases q2 : r.ls.reverse.findSome? (whoL w t) with
      | some s => rw [q2] at f2; exact seq_rt f2
      | none => rw [q2] at f2; exact seq_nx f2 rfl
  exact runB_rt (hb _ rfl) rfl
/-! the rota -/
def SubOk (p : Int × Int × Str) : Prop := 0 ≤ p.1 ∧ p.1 < p.2.1 ∧ p.2.1 ≤ 10000
theorem rota_w1_ok (sc at_ nm crD days many so ls : SV) (size k : Int) (crew : List Str) (ns : List Int) (ss : List (Int × Int × Str)) (hcr : crD = .d (.list (crew.map PyData.str))) (hn : ns.length = 62) (h0 : 0 ≤ k) (hk : k < 20) (hs : ss.length < 30) (hc : 0 < crew.length) (hsm : Small ns) :
    ∃ p, SubOk p ∧ law_rota_w1 [some sc, some at_, some nm, some crD, some days, some (.d (.int size)), some (.ol (ns.map PyData.int)), some many, some so, some (.d (.int k)), some ls, some (.ol (ss.map encT)), none]
      = .ok (.nx [some sc, some at_, some nm, some crD, some days, some (.d (.int size)), some (.ol (ns.map PyData.int)), some many, some so, none, some ls, some (.ol ((ss ++ [p]).map encT)), none]) := by
  have hz := line16
  subst hcr
  obtain ⟨a, ha', ha⟩ := atI_ints ns (2 + 3 * k) (by omega) (by omega)
  obtain ⟨b, _, hb⟩ := atI_ints ns (3 + 3 * k) (by omega) (by omega)
  obtain ⟨e, _, he⟩ := atI_ints ns (4 + 3 * k) (by omega) (by omega)
  have hc' : (0 : Int) < crew.length := by omega
  have hm := imodN e crew.length hc'
  have hsa := hsm a ha'
  obtain ⟨m, _, hm2⟩ := atI_map PyData.str crew (e % crew.length) hm.1 hm.2
  have hl : ss.length < sizeLine := by omega
  unfold law_rota_w1
  by_cases hsz : size = 2
  · exact ⟨(3 * a, 3 * a + 1 + b % 12, m), ⟨by show 0 ≤ 3 * a; omega, by show 3 * a < 3 * a + 1 + b % 12; omega, by show 3 * a + 1 + b % 12 ≤ 10000; omega⟩, by simp [ha, hb, he, hsz, hc, hc', hm2, hl, encT]⟩
  · exact ⟨(a % 30, a % 30 + 1 + b % 12, m), ⟨by show 0 ≤ a % 30; omega, by show a % 30 < a % 30 + 1 + b % 12; omega, by show a % 30 + 1 + b % 12 ≤ 10000; omega⟩, by simp [ha, hb, he, hsz, hc, hc', hm2, hl, encT]⟩
def rotA : En → R Fl :=
    (seqS (asgS 7 (bin ixS (dispL (conA (kon (.int 0)) (conA (kon (.int 1)) (conA (kon (.int 1)) (conA (kon (.int 1)) (conA (kon (.int 2)) (conA (kon (.int 2)) (conA (kon (.int 2)) (conA (kon (.int 3)) nilA))))))))) (bin modS (callB intS (conB (bin ixS (peek 6) (kon (.int 0))) nilB)) (kon (.int 8)))))
    (seqS (asgS 8 (bin modS (callB intS (conB (bin ixS (peek 6) (kon (.int 1))) nilB)) (kon (.int 4))))
    (ifS (asT (bin (eqS false) (peek 5) (kon (.int 2)))) (seqS (asgS 7 (bin modS (callB intS (conB (bin ixS (peek 6) (kon (.int 0))) nilB)) (kon (.int 7))))
    (asgS 8 (bin modS (callB intS (conB (bin ixS (peek 6) (kon (.int 1))) nilB)) (kon (.int 21))))) skip)))
theorem rotA_ok (sc at_ nm cr days : SV) (size : Int) (ns : List Int) (hn : ns.length = 62) :
    ∃ many so : Int, rotA [some sc, some at_, some nm, some cr, some days, some (.d (.int size)), some (.ol (ns.map PyData.int)), none, none, none, none, none, none] = .ok (.nx [some sc, some at_, some nm, some cr, some days, some (.d (.int size)), some (.ol (ns.map PyData.int)), some (.d (.int many)), some (.d (.int so)), none, none, none, none])
      ∧ 0 ≤ many ∧ many ≤ 6 ∧ 0 ≤ so ∧ so ≤ 20 ∧ (size ≠ 2 → many ≤ 3 ∧ so ≤ 3) := by
  obtain ⟨a0, _, h0⟩ := atI_ints ns 0 (by omega) (by omega)
  obtain ⟨a1, _, h1⟩ := atI_ints ns 1 (by omega) (by omega)
  have hm := imodN a0 8 (by omega)
  obtain ⟨v, hv, h2⟩ := atI_ints [0, 1, 1, 1, 2, 2, 2, 3] (a0 % 8) hm.1 (by simpa using hm.2)
  have hv2 : 0 ≤ v ∧ v ≤ 3 := by simp at hv; omega
  simp only [List.map_cons, List.map_nil] at h2
  unfold rotA
  by_cases hs : size = 2
  · exact ⟨a0 % 7, a1 % 21, by simp [h0, h1, h2, hs], by omega, by omega, by omega, by omega, by omega⟩
  · exact ⟨v, a1 % 4, by simp [h0, h1, h2, hs], by omega, by omega, by omega, by omega, by omega⟩
theorem rota_eq : law_rota_b = (seqS (asgS 6 (callF 2 law_draws_f (conA (callF 2 law_cell_f (conA (getV 0) (conA (getV 1) nilA))) (conA (kon (.int 62)) nilA)))) (seqS rotA
    (seqS (asgS 10 (lcE (rngD1 (conB (peek 7) nilB)) (setD 9) yesT (callF 4 law_layer_f (conA (callF 2 law_cell_f (conA (getV 0) (conA (bin addS (bin addS (peek 1) (kon (.int 1))) (peek 9)) nilA))) (conA (getV 3) (conA (getV 4) (conA (getV 5) nilA))))) [9]))
    (seqS (asgS 11 (dispL nilA))
    (seqS (forS (rngD1 (conB (peek 8) nilB)) (setD 9) law_rota_w1)
    (retS (dispT (conA (getV 2) (conA (callB tupS (conB (peek 10) nilB)) (conA (callB tupS (conB (peek 11) nilB)) nilA)))))))))) := by
  unfold rotA
  simp only [seqS_assoc]
  rfl
theorem rota_ok (sc : List Int) (at_ days size : Int) (nm : Str) (crew : List Str) (ha : 0 ≤ at_) (hd : 0 < days) (hs : size = 0 ∨ size = 1 ∨ size = 2) (hc : 0 < crew.length) :
    ∃ r : Rot, law_rota_f [.list (sc.map PyData.int), .int at_, .str nm, .list (crew.map PyData.str), .int days, .int size] = .ok (.d (encR r)) ∧ r.Ok ∧ r.nm = nm ∧ (∀ p ∈ r.ss, SubOk p) ∧ (∀ l ∈ r.ls, (∀ m ∈ l.mem, m ∈ crew) ∧ ∀ p ∈ l.sp, SpOk days p) ∧ (size ≠ 2 → r.ls.length ≤ 3 ∧ r.ss.length ≤ 3 ∧ ∀ l ∈ r.ls, l.st ≤ 100) := by
  have hz := line16
  obtain ⟨c, hce⟩ := cell2_ok sc at_ ha
  obtain ⟨ns, d1, d2, hsm⟩ := draws_ok c 62 (by omega) (by omega)
  have hn : ns.length = 62 := by simpa using d2
  rw [draws_eq.symm] at d1
  obtain ⟨many, so, a1, b1, b2, b3, b4, b5⟩ := rotA_ok (.d (.list (sc.map PyData.int))) (.d (.int at_)) (.d (.str nm)) (.d (.list (crew.map PyData.str))) (.d (.int days)) size ns hn
  obtain ⟨ls, l1, l2, l3⟩ := lcF_ex encL (fun l => l.Ok ∧ (∀ m ∈ l.mem, m ∈ crew) ∧ (∀ p ∈ l.sp, SpOk days p) ∧ (size ≠ 2 → l.st ≤ 100)) (k := setD 9) (e := (callF 4 law_layer_f (conA (callF 2 law_cell_f (conA (getV 0) (conA (bin addS (bin addS (peek 1) (kon (.int 1))) (peek 9)) nilA))) (conA (getV 3) (conA (getV 4) (conA (getV 5) nilA))))))
    (ρ0 := [some (.d (.list (sc.map PyData.int))), some (.d (.int at_)), some (.d (.str nm)), some (.d (.list (crew.map PyData.str))), some (.d (.int days)), some (.d (.int size)), some (.ol (ns.map PyData.int)), some (.d (.int many)), some (.d (.int so)), none, none, none, none]) (rng 0 many) (by
      intro x hx
      obtain ⟨i, rfl, hi⟩ := rng_mem hx
      obtain ⟨c2, hc2⟩ := cell2_ok sc (at_ + 1 + i) (by omega)
      obtain ⟨l, y1, y2, y3⟩ := layer_ok c2 days size crew hd hs hc
      exact ⟨_, .d (encL l), l, rfl, by simp [hc2, y1], rfl, y2, y3⟩)
  obtain ⟨ρ', e1, ss, e2, e3, e4⟩ := forF_inv (k := setD 9) (b := law_rota_w1) (fun i ρ => ∃ ss : List (Int × Int × Str), ρ = [some (.d (.list (sc.map PyData.int))), some (.d (.int at_)), some (.d (.str nm)), some (.d (.list (crew.map PyData.str))), some (.d (.int days)), some (.d (.int size)), some (.ol (ns.map PyData.int)), some (.d (.int many)), some (.d (.int so)), none, some (.ol (ls.map encL)), some (.ol (ss.map encT)), none] ∧ ss.length = i ∧ ∀ p ∈ ss, SubOk p) (rng 0 so) _ ⟨[], rfl, rfl, fun _ h => nomatch h⟩ (by
    rintro i x _ hx ⟨ss, rfl, hl, hss⟩
    obtain ⟨rfl, hi⟩ := rng_at hx
    obtain ⟨p, hpo, hp⟩ := rota_w1_ok (.d (.list (sc.map PyData.int))) (.d (.int at_)) (.d (.str nm)) _ (.d (.int days)) (.d (.int many)) (.d (.int so)) (.ol (ls.map encL)) size (0 + (i : Nat)) crew ns ss rfl hn (by omega) (by omega) (by omega) hc hsm
    exact ⟨_, _, rfl, .inl hp, ss ++ [p], rfl, by simp [hl], fun q hq => by rcases List.mem_append.mp hq with z | z; exact hss q z; rw [List.mem_singleton.mp z]; exact hpo⟩)
  subst e2
  rw [rng_len] at e3 l2
  rw [List.map_nil] at e1
  refine ⟨⟨nm, ls, ss⟩, ?_, ⟨fun l hl => (l3 l hl).1, by show ls.length ≤ 6; omega, by show ss.length ≤ 20; omega⟩, rfl, e4, fun l hl => ⟨(l3 l hl).2.1, (l3 l hl).2.2.1⟩, fun z => ⟨by show ls.length ≤ 3; have := b5 z; omega, by show ss.length ≤ 3; have := b5 z; omega, fun l hl => (l3 l hl).2.2.2 z⟩⟩
  have hR : okR so = true := okR_of (by omega) (by omega)
  have hR2 : okR many = true := okR_of (by omega) (by omega)
  have hl : many.toNat < sizeLine := by omega
  have hb : ∀ ρ, ρ = [some (.d (.list (sc.map PyData.int))), some (.d (.int at_)), some (.d (.str nm)), some (.d (.list (crew.map PyData.str))), some (.d (.int days)), some (.d (.int size)), none, none, none, none, none, none, none] → law_rota_b ρ = .ok (.rt (.d (encR ⟨nm, ls, ss⟩))) := by
    rintro _ rfl
    rw [rota_eq]
    refine seq_nx (asg_nx (r := .ol (ns.map PyData.int)) (by simp [hce, d1]) rfl) (seq_nx a1 (seq_nx (asg_nx (r := .ol (ls.map encL)) (by simp [hR2, hl, l1]) rfl) (seq_nx (asg_nx (r := .ol []) rfl rfl) (seq_nx (by rw [forS_ap]; simp only [rngD1_ap, conB_ap, nilB_ap, peek_ap, ok_bind, List.getElem?_cons_zero, List.getElem?_cons_succ, List.set_cons_zero, List.set_cons_succ, hR, if_true]; exact e1) ?_))))
    simp [encR]
  exact runB_rt (hb _ rfl) rfl
def endsF (w b : Int) (sp : List (Int × Int)) : List Int := sp.flatMap fun p => [b + (p.1 - b) % w, b + (p.2 - b) % w]
def brkL (w t : Int) (l : Lay) : List Int := ((if t < l.st then [l.st] else []) ++ (if 1 < l.mem.length then [l.st + (imax (t + 1) l.st - l.st + l.sh - 1) / l.sh * l.sh] else [])) ++ endsF w (imax (t + 1) l.st) l.sp
def subE (t : Int) (ss : List (Int × Int × Str)) : List Int := ss.flatMap fun p => (if t < p.1 then [p.1] else []) ++ (if t < p.2.1 then [p.2.1] else [])
def foundR (w t : Int) (r : Rot) : List Int := subE t r.ss ++ r.ls.flatMap (brkL w t)
def nxtO : List Int → Option Int
  | [] => none
  | x :: xs => some (minI x xs)
def encI : Option Int → D
  | none => .none
  | some x => .int x
abbrev eB (w t : Int) (l : Lay) (F : List Int) (b : Int) (x : Option SV) : En := [some (.d (.int w)), some (.d (encL l)), some (.d (.int t)), some (.d (.tuple (l.mem.map PyData.str))), some (.d (.int l.st)), some (.d (.int l.sh)), some (.d (.tuple (l.sp.map encS))), some (.ol (F.map PyData.int)), some (.d (.int b)), x, none, none]
theorem brk_loop (w t : Int) (l : Lay) (b : Int) (x : Option SV) (hw : 0 < w) : ∀ (u : List (Int × Int)) (F : List Int), F.length + 2 * u.length < 1000 → forF (setD 10) layer_breaks_w2 (u.map encS) (eB w t l F b x) = .ok (.nx (eB w t l (F ++ endsF w b u) b x))
  | [], F, _ => by simp [forF, endsF]
  | p :: u, F, h => by
    have hz := line16
    simp only [List.length_cons] at h
    have h1 : F.length < sizeLine := by omega
    have h2 : F.length + 1 < sizeLine := by omega
    have ih := brk_loop w t l b x hw u (F ++ [b + (p.1 - b) % w, b + (p.2 - b) % w]) (by simp; omega)
    have e : F ++ endsF w b (p :: u) = F ++ [b + (p.1 - b) % w, b + (p.2 - b) % w] ++ endsF w b u := by simp [endsF]
    rw [e, ← ih, List.map_cons, forF]
    have e2 : layer_breaks_w2 [some (.d (.int w)), some (.d (encL l)), some (.d (.int t)), some (.d (.tuple (l.mem.map PyData.str))), some (.d (.int l.st)), some (.d (.int l.sh)), some (.d (.tuple (l.sp.map encS))), some (.ol (F.map PyData.int)), some (.d (.int b)), x, some (.d (encS p)), none] = .ok (.nx (eB w t l (F ++ [b + (p.1 - b) % w, b + (p.2 - b) % w]) b x)) := by
      have eS : encS p = .tuple [.int p.1, .int p.2] := rfl
      unfold layer_breaks_w2 layer_breaks_w1
      simp [forF, hw, h1, h2, eS]
    simp only [setD_ap, List.set_cons_succ, List.set_cons_zero, e2, ok_bind]
theorem ends_len (w b : Int) (sp : List (Int × Int)) : (endsF w b sp).length = 2 * sp.length := by
  induction sp with
  | nil => rfl
  | cons p r ih => show ([_, _] ++ endsF w b r).length = _; rw [List.length_append, ih]; simp; omega
theorem brkL_len (w t : Int) (l : Lay) (h : l.Ok) : (brkL w t l).length ≤ 14 := by
  have := h.sp
  unfold brkL
  rw [List.length_append, List.length_append, ends_len]
  split <;> split <;> simp <;> omega
theorem layer_breaks_ok (w t : Int) (l : Lay) (hw : 0 < w) (h : l.Ok) : layer_breaks_f [.int w, encL l, .int t] = .ok (.ol ((brkL w t l).map PyData.int)) := by
  have hz := line16
  have hz0 : 0 < sizeLine := by omega
  have hz1 : 1 < sizeLine := by omega
  have g1 := h.sh
  have g2 : l.sh < 1073741824 := by have := h.sh2; omega
  have g3 : okM l.sh = true := okM_of (by omega) (by have := h.sh2; omega)
  have g4 := h.sp
  have hb : ∀ ρ, ρ = [some (.d (.int w)), some (.d (encL l)), some (.d (.int t)), none, none, none, none, none, none, none, none, none] → layer_breaks_b ρ = .ok (.rt (.ol ((brkL w t l).map PyData.int))) := by
    rintro _ rfl
    have lp := fun (F : List Int) (hF : F.length ≤ 2) x => brk_loop w t l (imax (t + 1) l.st) x hw l.sp F (by omega)
    have e0 : asgG (tupG 4 (gsC (setD 3) (gsC (setD 4) (gsC (setD 5) (gsC (setD 6) gsN))))) (getV 1) [some (.d (.int w)), some (.d (encL l)), some (.d (.int t)), none, none, none, none, none, none, none, none, none] = .ok (.nx [some (.d (.int w)), some (.d (encL l)), some (.d (.int t)), some (.d (.tuple (l.mem.map PyData.str))), some (.d (.int l.st)), some (.d (.int l.sh)), some (.d (.tuple (l.sp.map encS))), none, none, none, none, none]) := rfl
    unfold layer_breaks_b
    refine seq_nx e0 (seq_nx (asg_nx (r := .ol []) rfl rfl) ?_)
    unfold brkL
    have c2a : 1 < l.mem.length → (1 : Int) < l.mem.length := fun _ => by omega
    have c2b : ¬ 1 < l.mem.length → ¬ (1 : Int) < l.mem.length := fun _ => by omega
    by_cases c1 : t < l.st
    · by_cases c2 : 1 < l.mem.length
      · have := lp [l.st, l.st + (imax (t + 1) l.st - l.st + l.sh - 1) / l.sh * l.sh] (by simp) (some (.d (.int ((imax (t + 1) l.st - l.st + l.sh - 1) / l.sh))))
        simp only [eB, List.map_cons, List.map_nil] at this
        simp [c1, c2, c2a c2, hz0, hz1, g1, g2, g3, this]
      · have := lp [l.st] (by simp) none
        simp only [eB, List.map_cons, List.map_nil] at this
        simp [c1, c2, c2b c2, hz0, hz1, g1, g2, g3, this]
    · by_cases c2 : 1 < l.mem.length
      · have := lp [l.st + (imax (t + 1) l.st - l.st + l.sh - 1) / l.sh * l.sh] (by simp) (some (.d (.int ((imax (t + 1) l.st - l.st + l.sh - 1) / l.sh))))
        simp only [eB, List.map_cons, List.map_nil] at this
        simp [c1, c2, c2a c2, hz0, hz1, g1, g2, g3, this]
      · have := lp [] (by simp) none
        simp only [eB, List.map_cons, List.map_nil] at this
        simp [c1, c2, c2b c2, hz0, hz1, g1, g2, g3, this]
  exact runB_rt (hb _ rfl) rfl
abbrev eN (w t : Int) (r : Rot) (F : List Int) : En := [some (.d (.int w)), some (.d (encR r)), some (.d (.int t)), some (.ol (F.map PyData.int)), none, none, none, none, none]
theorem nb_l1 (w t : Int) (r : Rot) : ∀ (u : List (Int × Int × Str)) (F : List Int), F.length + 2 * u.length < 1000 → forF (tupG 3 (gsC (setD 4) (gsC (setD 5) (gsC (setD 6) gsN)))) next_break_w2 (u.map encT) (eN w t r F) = .ok (.nx (eN w t r (F ++ subE t u)))
  | [], F, _ => by simp [forF, subE]
  | p :: u, F, h => by
    have hz := line16
    simp only [List.length_cons] at h
    have h1 : F.length < sizeLine := by omega
    have h2 : F.length + 1 < sizeLine := by omega
    have hl : ((if t < p.1 then [p.1] else []) ++ (if t < p.2.1 then [p.2.1] else [])).length ≤ 2 := by split <;> split <;> simp
    have ih := nb_l1 w t r u (F ++ ((if t < p.1 then [p.1] else []) ++ (if t < p.2.1 then [p.2.1] else []))) (by rw [List.length_append]; omega)
    have e : F ++ subE t (p :: u) = F ++ ((if t < p.1 then [p.1] else []) ++ (if t < p.2.1 then [p.2.1] else [])) ++ subE t u := by simp [subE]
    rw [e, ← ih, List.map_cons, forF]
    have e1 : tupG 3 (gsC (setD 4) (gsC (setD 5) (gsC (setD 6) gsN))) (encT p) (eN w t r F) = .ok [some (.d (.int w)), some (.d (encR r)), some (.d (.int t)), some (.ol (F.map PyData.int)), some (.d (.int p.1)), some (.d (.int p.2.1)), some (.d (.str p.2.2)), none, none] := rfl
    have e2 : next_break_w2 [some (.d (.int w)), some (.d (encR r)), some (.d (.int t)), some (.ol (F.map PyData.int)), some (.d (.int p.1)), some (.d (.int p.2.1)), some (.d (.str p.2.2)), none, none] = .ok (.nx (eN w t r (F ++ ((if t < p.1 then [p.1] else []) ++ (if t < p.2.1 then [p.2.1] else []))))) := by
      unfold next_break_w2 next_break_w1
      by_cases c1 : t < p.1
      · by_cases c2 : t < p.2.1
        · simp [forF, h1, h2, c1, c2]
        · simp [forF, h1, h2, c1, c2]
      · by_cases c2 : t < p.2.1
        · simp [forF, h1, h2, c1, c2]
        · simp [forF, h1, h2, c1, c2]
    simp only [e1, e2, ok_bind]
theorem nb_l2 (w t : Int) (r : Rot) (hw : 0 < w) : ∀ (u : List Lay) (F : List Int), (∀ l ∈ u, l.Ok) → F.length + 14 * u.length < 10000 → forF (setD 8) next_break_w3 (u.map encL) (eN w t r F) = .ok (.nx (eN w t r (F ++ u.flatMap (brkL w t))))
  | [], F, _, _ => by simp [forF]
  | l :: u, F, hu, h => by
    have hz := line16
    simp only [List.length_cons] at h
    have hl := brkL_len w t l (hu l List.mem_cons_self)
    have h1 : F.length + (brkL w t l).length ≤ sizeLine := by omega
    have hb := layer_breaks_ok w t l hw (hu l List.mem_cons_self)
    have ih := nb_l2 w t r hw u (F ++ brkL w t l) (fun k hk => hu k (List.mem_cons_of_mem _ hk)) (by rw [List.length_append]; omega)
    rw [List.flatMap_cons, ← List.append_assoc, ← ih, List.map_cons, forF]
    have e2 : next_break_w3 [some (.d (.int w)), some (.d (encR r)), some (.d (.int t)), some (.ol (F.map PyData.int)), none, none, none, none, some (.d (encL l))] = .ok (.nx (eN w t r (F ++ brkL w t l))) := by
      unfold next_break_w3 extS
      simp [hb, h1]
    simp only [setD_ap, List.set_cons_succ, List.set_cons_zero, e2, ok_bind]
theorem intsD_map (ns : List Int) : intsD (ns.map PyData.int) = some ns := by
  induction ns with
  | nil => rfl
  | cons b r ih => show (intsD (r.map PyData.int)).map _ = _; rw [ih]; rfl
theorem minS_ol (x : Int) (xs : List Int) : minS [.ol ((x :: xs).map PyData.int)] = .ok (.d (.int (minI x xs))) := by
  show (match intsD ((x :: xs).map PyData.int) with | some (b :: r) => R.ok (SV.d (.int (minI b r))) | _ => .bad) = _
  rw [intsD_map]
theorem next_break_ok (w t : Int) (r : Rot) (hw : 0 < w) (h : r.Ok) : next_break_f [.int w, encR r, .int t] = .ok (.d (encI (nxtO (foundR w t r)))) := by
  have hsl := h.sl
  have hll := h.ll
  have h1 := nb_l1 w t r r.ss [] (by simp; omega)
  have hs2 : (subE t r.ss).length ≤ 40 := by
    have : ∀ u : List (Int × Int × Str), (subE t u).length ≤ 2 * u.length := by
      intro u
      induction u with
      | nil => simp [subE]
      | cons p u ih =>
        have e : subE t (p :: u) = ((if t < p.1 then [p.1] else []) ++ (if t < p.2.1 then [p.2.1] else [])) ++ subE t u := by simp [subE]
        have hl : ((if t < p.1 then [p.1] else []) ++ (if t < p.2.1 then [p.2.1] else [])).length ≤ 2 := by split <;> split <;> simp
        rw [e, List.length_append, List.length_cons]; omega
    have := this r.ss
    omega
  have h2 := nb_l2 w t r hw r.ls (subE t r.ss) h.ls (by omega)
  rw [List.nil_append] at h1
  have ix1 : ixS (.d (encR r)) (.d (.int 1)) = .ok (.d (.tuple (r.ls.map encL))) := rfl
  have ix2 : ixS (.d (encR r)) (.d (.int 2)) = .ok (.d (.tuple (r.ss.map encT))) := rfl
  have hb : ∀ ρ, ρ = [some (.d (.int w)), some (.d (encR r)), some (.d (.int t)), none, none, none, none, none, none] → next_break_b ρ = .ok (.rt (.d (encI (nxtO (foundR w t r))))) := by
    rintro _ rfl
    unfold next_break_b
    refine seq_nx (asg_nx (r := .ol []) rfl rfl) (seq_nx (ρ1 := eN w t r (subE t r.ss)) ?_ (seq_nx (ρ1 := eN w t r (foundR w t r)) ?_ ?_))
    · rw [forS_ap]; simp only [seqD_ap, bin_ap, peek_ap, kon_ap, ok_bind, List.set_cons_succ, List.set_cons_zero, List.getElem?_cons_zero, List.getElem?_cons_succ, ix2]; exact h1
    · rw [forS_ap]; simp only [seqD_ap, bin_ap, peek_ap, kon_ap, ok_bind, List.set_cons_succ, List.set_cons_zero, List.getElem?_cons_zero, List.getElem?_cons_succ, ix1]; exact h2
    · cases hF : foundR w t r with
      | nil => simp [nxtO, encI]
      | cons x xs =>
        have hm := minS_ol x xs
        simp only [List.map_cons] at hm
        simp [nxtO, encI, hm]
  exact runB_rt (hb _ rfl) rfl
theorem minI_spec : ∀ (xs : List Int) (x : Int), minI x xs ∈ x :: xs ∧ ∀ y ∈ x :: xs, minI x xs ≤ y
  | [], x => ⟨List.mem_cons_self, fun y hy => by rw [List.mem_singleton.mp hy]; exact Int.le_refl _⟩
  | z :: xs, x => by
    obtain ⟨h1, h2⟩ := minI_spec xs (if z < x then z else x)
    show minI (if z < x then z else x) xs ∈ _ ∧ _
    refine ⟨?_, fun y hy => ?_⟩
    · rcases List.mem_cons.mp h1 with e | e
      · rw [e]; split
        · exact List.mem_cons_of_mem _ List.mem_cons_self
        · exact List.mem_cons_self
      · exact List.mem_cons_of_mem _ (List.mem_cons_of_mem _ e)
    · have h3 := h2 _ List.mem_cons_self
      show minI (if z < x then z else x) xs ≤ y
      rcases List.mem_cons.mp hy with rfl | hy
      · split at h3 <;> (split; all_goals omega)
      · rcases List.mem_cons.mp hy with rfl | hy
        · split at h3 <;> (split; all_goals omega)
        · exact h2 y (List.mem_cons_of_mem _ hy)
theorem find_at (p : Int → Bool) (hi m : Int) (hm : m < hi) (hp : p m = true) : ∀ (k : Nat) (lo : Int), (m - lo).toNat = k → lo ≤ m → (∀ x, lo ≤ x → x < m → p x = false) → (irng lo hi).find? p = some m
  | 0, lo, hk, h0, h => by
    have : lo = m := by omega
    subst this
    rw [irng_cons hm, List.find?_cons, hp]
  | k + 1, lo, hk, h0, h => by
    rw [irng_cons (by omega), List.find?_cons, h lo (Int.le_refl _) (by omega)]
    exact find_at p hi m hm hp k (lo + 1) (by omega) (by omega) fun x h1 h2 => h x (by omega) h2
theorem find_min (p : Int → Bool) (lo hi : Int) (F : List Int) (h1 : ∀ y ∈ F, lo ≤ y ∧ y < hi ∧ p y = true) (h2 : ∀ x, lo ≤ x → p x = true → ∃ y ∈ F, y ≤ x) : (irng lo hi).find? p = nxtO F := by
  cases F with
  | nil =>
    rw [List.find?_eq_none.mpr]
    · rfl
    · intro x hx hp
      obtain ⟨y, hy, _⟩ := h2 x (irng_mem hx).1 hp
      cases hy
  | cons x xs =>
    obtain ⟨m1, m2⟩ := minI_spec xs x
    obtain ⟨a1, a2, a3⟩ := h1 _ m1
    refine find_at p hi _ a2 a3 _ lo rfl a1 fun z z1 z2 => ?_
    cases hz : p z with
    | false => rfl
    | true =>
      obtain ⟨y, hy, hyz⟩ := h2 z z1 hz
      have := m2 y hy
      omega
def isBL (w x : Int) (l : Lay) : Prop := x = l.st ∨ (l.st < x ∧ 1 < l.mem.length ∧ (x - l.st) % l.sh = 0) ∨ ∃ p ∈ l.sp, l.st < x ∧ ((x - p.1) % w = 0 ∨ (x - p.2) % w = 0)
def isB (w x : Int) (r : Rot) : Prop := (∃ p ∈ r.ss, x = p.1 ∨ x = p.2.1) ∨ ∃ l ∈ r.ls, isBL w x l
theorem ceil_turn (d sh : Int) (hs : 0 < sh) : d ≤ (d + sh - 1) / sh * sh ∧ (d + sh - 1) / sh * sh < d + sh := by
  have a := Int.mul_ediv_add_emod (d + sh - 1) sh
  have b := imodN (d + sh - 1) sh hs
  rw [Int.mul_comm] at a
  constructor <;> omega
theorem span_at (e b w : Int) (hw : 0 < w) : (b + (e - b) % w - e) % w = 0 := by
  have a := Int.mul_ediv_add_emod (e - b) w
  have : b + (e - b) % w - e = w * (-((e - b) / w)) := by rw [Int.mul_neg]; omega
  rw [this, Int.mul_emod_right]
theorem span_le (x e b w : Int) (hw : 0 < w) (hb : b ≤ x) (h : (x - e) % w = 0) : b + (e - b) % w ≤ x := by
  have h1 : (e - b) % w = (x - b) % w := by
    have e1 : x - b = (e - b) + (x - e) := by omega
    rw [e1, Int.add_emod, h, Int.add_zero, Int.emod_emod]
  have a := Int.mul_ediv_add_emod (x - b) w
  have c : 0 ≤ w * ((x - b) / w) := Int.mul_nonneg (by omega) (Int.ediv_nonneg (by omega) (by omega))
  omega
theorem imax_ge (a b : Int) : a ≤ imax a b ∧ b ≤ imax a b := by unfold imax; split <;> omega
theorem imax_eq (a b : Int) : imax a b = a ∨ imax a b = b := by unfold imax; split <;> simp
theorem turn_le (x st sh b : Int) (hs : 0 < sh) (hb : b ≤ x) (hx : st ≤ b) (h : (x - st) % sh = 0) : st + (b - st + sh - 1) / sh * sh ≤ x := by
  obtain ⟨a1, a2⟩ := ceil_turn (b - st) sh hs
  have a := Int.mul_ediv_add_emod (x - st) sh
  rw [h, Int.mul_comm] at a
  generalize (b - st + sh - 1) / sh = q at *
  generalize (x - st) / sh = k at *
  have : q ≤ k := by
    by_cases c : k < q
    · have : (k + 1) * sh ≤ q * sh := Int.mul_le_mul_of_nonneg_right (by omega) (by omega)
      rw [Int.add_mul] at this
      omega
    · omega
  have : q * sh ≤ k * sh := Int.mul_le_mul_of_nonneg_right this (by omega)
  omega
theorem brkL_a (w t : Int) (l : Lay) (hw : 0 < w) (h : l.Ok) : ∀ y ∈ brkL w t l, t < y ∧ isBL w y l ∧ (y ≤ l.st ∨ (1 < l.mem.length ∧ y < imax (t + 1) l.st + l.sh) ∨ (l.sp ≠ [] ∧ y < imax (t + 1) l.st + w)) := by
  intro y hy
  have g1 := h.sh
  obtain ⟨m1, m2⟩ := imax_ge (t + 1) l.st
  unfold brkL at hy
  rcases List.mem_append.mp hy with hy | hy
  · rcases List.mem_append.mp hy with hy | hy
    · split at hy
      · rw [List.mem_singleton.mp hy]; exact ⟨by assumption, .inl rfl, .inl (Int.le_refl _)⟩
      · cases hy
    · split at hy
      · rename_i hc
        rw [List.mem_singleton.mp hy]
        obtain ⟨a1, a2⟩ := ceil_turn (imax (t + 1) l.st - l.st) l.sh g1
        have e0 : (l.st + (imax (t + 1) l.st - l.st + l.sh - 1) / l.sh * l.sh - l.st) % l.sh = 0 := by
          rw [show l.st + (imax (t + 1) l.st - l.st + l.sh - 1) / l.sh * l.sh - l.st = (imax (t + 1) l.st - l.st + l.sh - 1) / l.sh * l.sh by omega, Int.mul_emod_left]
        generalize (imax (t + 1) l.st - l.st + l.sh - 1) / l.sh * l.sh = q at *
        refine ⟨by omega, ?_, .inr (.inl ⟨hc, by omega⟩)⟩
        by_cases hq : q = 0
        · exact .inl (by omega)
        · exact .inr (.inl ⟨by omega, hc, e0⟩)
      · cases hy
  · obtain ⟨p, hp, hy⟩ := List.mem_flatMap.mp hy
    have hne : l.sp ≠ [] := fun e => by rw [e] at hp; cases hp
    have key : ∀ e, (e = p.1 ∨ e = p.2) → y = imax (t + 1) l.st + (e - imax (t + 1) l.st) % w → t < y ∧ isBL w y l ∧ (y ≤ l.st ∨ (1 < l.mem.length ∧ y < imax (t + 1) l.st + l.sh) ∨ (l.sp ≠ [] ∧ y < imax (t + 1) l.st + w)) := by
      intro e he hy
      have m := imodN (e - imax (t + 1) l.st) w hw
      have s := span_at e (imax (t + 1) l.st) w hw
      rw [← hy] at s
      refine ⟨by omega, ?_, .inr (.inr ⟨hne, by omega⟩)⟩
      by_cases hq : y = l.st
      · exact .inl hq
      · refine .inr (.inr ⟨p, hp, by omega, ?_⟩)
        rcases he with rfl | rfl
        · exact .inl s
        · exact .inr s
    rcases List.mem_cons.mp hy with hy | hy
    · exact key p.1 (.inl rfl) hy
    · exact key p.2 (.inr rfl) (List.mem_singleton.mp hy)
theorem brkL_b (w t x : Int) (l : Lay) (hw : 0 < w) (h : l.Ok) (hx : t < x) (hb : isBL w x l) : ∃ y ∈ brkL w t l, y ≤ x := by
  have g1 := h.sh
  have hm : ∀ b, (b = t + 1 ∨ b = l.st) → b ≤ x → True := fun _ _ _ => trivial
  obtain ⟨m1, m2⟩ := imax_ge (t + 1) l.st
  unfold brkL
  rcases hb with hb | ⟨b1, b2, b3⟩ | ⟨p, hp, b1, b2⟩
  · exact ⟨l.st, List.mem_append_left _ (List.mem_append_left _ (by rw [if_pos (by omega)]; exact List.mem_cons_self)), by omega⟩
  · have hbx : imax (t + 1) l.st ≤ x := by rcases imax_eq (t + 1) l.st with e | e <;> omega
    exact ⟨_, List.mem_append_left _ (List.mem_append_right _ (by rw [if_pos b2]; exact List.mem_cons_self)), turn_le x l.st l.sh _ g1 hbx m2 b3⟩
  · have hbx : imax (t + 1) l.st ≤ x := by rcases imax_eq (t + 1) l.st with e | e <;> omega
    rcases b2 with b2 | b2
    · exact ⟨_, List.mem_append_right _ (List.mem_flatMap.mpr ⟨p, hp, List.mem_cons_self⟩), span_le x p.1 _ w hw hbx b2⟩
    · exact ⟨_, List.mem_append_right _ (List.mem_flatMap.mpr ⟨p, hp, List.mem_cons_of_mem _ List.mem_cons_self⟩), span_le x p.2 _ w hw hbx b2⟩
theorem found_a (w t : Int) (r : Rot) (hw : 0 < w) (h : r.Ok) : ∀ y ∈ foundR w t r, t < y ∧ isB w y r := by
  intro y hy
  rcases List.mem_append.mp hy with hy | hy
  · obtain ⟨p, hp, hy⟩ := List.mem_flatMap.mp hy
    rcases List.mem_append.mp hy with hy | hy
    · split at hy
      · rw [List.mem_singleton.mp hy]; exact ⟨by assumption, .inl ⟨p, hp, .inl rfl⟩⟩
      · cases hy
    · split at hy
      · rw [List.mem_singleton.mp hy]; exact ⟨by assumption, .inl ⟨p, hp, .inr rfl⟩⟩
      · cases hy
  · obtain ⟨l, hl, hy⟩ := List.mem_flatMap.mp hy
    obtain ⟨a, b, _⟩ := brkL_a w t l hw (h.ls l hl) y hy
    exact ⟨a, .inr ⟨l, hl, b⟩⟩
theorem found_b (w t x : Int) (r : Rot) (hw : 0 < w) (h : r.Ok) (hx : t < x) (hb : isB w x r) : ∃ y ∈ foundR w t r, y ≤ x := by
  rcases hb with ⟨p, hp, hb⟩ | ⟨l, hl, hb⟩
  · refine ⟨x, List.mem_append_left _ (List.mem_flatMap.mpr ⟨p, hp, ?_⟩), Int.le_refl _⟩
    rcases hb with hb | hb
    · exact List.mem_append_left _ (by rw [if_pos (by omega)]; exact List.mem_singleton.mpr hb)
    · exact List.mem_append_right _ (by rw [if_pos (by omega)]; exact List.mem_singleton.mpr hb)
  · obtain ⟨y, hy, hyx⟩ := brkL_b w t x l hw (h.ls l hl) hx hb
    exact ⟨y, List.mem_append_right _ (List.mem_flatMap.mpr ⟨l, hl, hy⟩), hyx⟩
def SpsOk (w : Int) (r : Rot) : Prop := ∀ l ∈ r.ls, ∀ p ∈ l.sp, SpOk w p
theorem findSome_congr {α β : Type} {f g : α → Option β} : ∀ (xs : List α), (∀ x ∈ xs, f x = g x) → xs.findSome? f = xs.findSome? g
  | [], _ => rfl
  | x :: xs, h => by
    rw [List.findSome?_cons, List.findSome?_cons, h x List.mem_cons_self, findSome_congr xs fun y hy => h y (List.mem_cons_of_mem _ hy)]
theorem step_mod (x w : Int) (hw : 0 < w) : (x % w + 1 = w ∧ (x + 1) % w = 0) ∨ (x % w + 1 < w ∧ (x + 1) % w = x % w + 1) := by
  have m := imodN x w hw
  have a := Int.mul_ediv_add_emod x w
  by_cases h : x % w + 1 = w
  · refine .inl ⟨h, ?_⟩
    have : x + 1 = w * (x / w + 1) := by rw [Int.mul_add]; omega
    rw [this, Int.mul_emod_right]
  · refine .inr ⟨by omega, ?_⟩
    have : x + 1 = (x % w + 1) + w * (x / w) := by omega
    rw [this, Int.add_mul_emod_self_left]
    exact Int.emod_eq_of_lt (by omega) (by omega)
theorem sub_mod0 (y e w : Int) (h : y % w = e) : (y - e) % w = 0 := by
  have a := Int.mul_ediv_add_emod y w
  have : y - e = w * (y / w) := by omega
  rw [this, Int.mul_emod_right]
theorem insB_step (w x : Int) (hw : 0 < w) (sp : List (Int × Int)) (hs : ∀ p ∈ sp, SpOk w p) (h : ∀ p ∈ sp, ¬ ((x + 1 - p.1) % w = 0 ∨ (x + 1 - p.2) % w = 0)) : insB w (x + 1) sp = insB w x sp := by
  unfold insB
  induction sp with
  | nil => rfl
  | cons p sp ih =>
    rw [List.any_cons, List.any_cons, ih (fun q hq => hs q (List.mem_cons_of_mem _ hq)) fun q hq => h q (List.mem_cons_of_mem _ hq)]
    congr 1
    obtain ⟨s1, s2, s3⟩ := hs p List.mem_cons_self
    have hp := h p List.mem_cons_self
    have m := imodN x w hw
    have n1 : (x + 1) % w ≠ p.1 := fun e => hp (.inl (sub_mod0 _ _ _ e))
    have n2 : (x + 1) % w ≠ p.2 := fun e => hp (.inr (sub_mod0 _ _ _ e))
    have n3 : ¬ ((x + 1) % w = 0 ∧ p.2 = w) := fun ⟨e1, e2⟩ => hp (.inr (by
      have a := Int.mul_ediv_add_emod (x + 1) w
      have : x + 1 - p.2 = w * ((x + 1) / w - 1) := by rw [Int.mul_sub]; omega
      rw [this, Int.mul_emod_right]))
    rcases step_mod x w hw with ⟨c1, c2⟩ | ⟨c1, c2⟩
    · rw [c2] at n1 n2 n3 ⊢
      have e1 : ¬ p.1 ≤ 0 := by omega
      have e2 : ¬ x % w < p.2 := by omega
      rw [decide_eq_false e1, decide_eq_false e2, Bool.false_and, Bool.and_false]
    · rw [c2] at n1 n2 ⊢
      have e1 : (p.1 ≤ x % w + 1) ↔ (p.1 ≤ x % w) := by omega
      have e2 : (x % w + 1 < p.2) ↔ (x % w < p.2) := by omega
      simp only [e1, e2]
theorem whoL_step (w x : Int) (l : Lay) (hw : 0 < w) (h : l.Ok) (hs : ∀ p ∈ l.sp, SpOk w p) (hb : ¬ isBL w (x + 1) l) : whoL w (x + 1) l = whoL w x l := by
  have g1 := h.sh
  have n1 : x + 1 ≠ l.st := fun e => hb (.inl e)
  unfold whoL
  by_cases c1 : x < l.st
  · rw [if_pos c1, if_pos (show x + 1 < l.st by omega)]
  · rw [if_neg c1, if_neg (show ¬ x + 1 < l.st by omega)]
    have n2 : ∀ p ∈ l.sp, ¬ ((x + 1 - p.1) % w = 0 ∨ (x + 1 - p.2) % w = 0) := fun p hp e => hb (.inr (.inr ⟨p, hp, by omega, e⟩))
    rw [insB_step w x hw l.sp hs n2]
    have hk : ((x + 1 - l.st) / l.sh % l.mem.length).toNat = ((x - l.st) / l.sh % l.mem.length).toNat := by
      by_cases c2 : 1 < l.mem.length
      · have n3 : ¬ (x + 1 - l.st) % l.sh = 0 := fun e => hb (.inr (.inl ⟨by omega, c2, e⟩))
        have e : (x + 1 - l.st) / l.sh = (x - l.st) / l.sh := by
          have a := Int.mul_ediv_add_emod (x - l.st) l.sh
          have m := imodN (x - l.st) l.sh g1
          rcases step_mod (x - l.st) l.sh g1 with ⟨d1, d2⟩ | ⟨d1, d2⟩
          · exact absurd (by rw [show x + 1 - l.st = x - l.st + 1 by omega]; exact d2) n3
          · rw [show x + 1 - l.st = ((x - l.st) % l.sh + 1) + l.sh * ((x - l.st) / l.sh) by omega, Int.add_mul_ediv_left _ _ (by omega), Int.ediv_eq_zero_of_lt (by omega) (by omega)]
            omega
        rw [e]
      · have : l.mem.length = 1 := by have := h.mem; omega
        rw [this]
        have e1 := imodN ((x + 1 - l.st) / l.sh) 1 (by omega)
        have e2 := imodN ((x - l.st) / l.sh) 1 (by omega)
        simp only [Int.natCast_one] at *
        omega
    rw [hk]
theorem subF_step (x : Int) (p : Int × Int × Str) (h : ¬ (x + 1 = p.1 ∨ x + 1 = p.2.1)) : subF (x + 1) p = subF x p := by
  unfold subF
  have : (p.1 ≤ x + 1 ∧ x + 1 < p.2.1) ↔ (p.1 ≤ x ∧ x < p.2.1) := by omega
  simp only [this]
theorem whoR_step (w x : Int) (r : Rot) (hw : 0 < w) (h : r.Ok) (hs : SpsOk w r) (hb : ¬ isB w (x + 1) r) : whoR w (x + 1) r = whoR w x r := by
  unfold whoR
  rw [findSome_congr (f := subF (x + 1)) (g := subF x) _ fun p hp => subF_step x p fun e => hb (.inl ⟨p, List.mem_reverse.mp hp, e⟩)]
  rw [findSome_congr (f := whoL w (x + 1)) (g := whoL w x) _ fun l hl => whoL_step w x l hw (h.ls l (List.mem_reverse.mp hl)) (hs l (List.mem_reverse.mp hl)) fun e => hb (.inr ⟨l, List.mem_reverse.mp hl, e⟩)]
theorem whoR_run (w t : Int) (r : Rot) (hw : 0 < w) (h : r.Ok) (hs : SpsOk w r) : ∀ (n : Nat), (∀ y, t < y → y ≤ t + n → ¬ isB w y r) → whoR w (t + n) r = whoR w t r
  | 0, _ => by rw [show t + ((0 : Nat) : Int) = t by omega]
  | n + 1, hb => by
    have := whoR_step w (t + n) r hw h hs (by rw [show t + (n : Int) + 1 = t + ((n + 1 : Nat) : Int) by omega]; exact hb _ (by omega) (by omega))
    rw [show t + ((n + 1 : Nat) : Int) = t + (n : Int) + 1 by omega, this]
    exact whoR_run w t r hw h hs n fun y h1 h2 => hb y h1 (by omega)
theorem nxt_free (w t x : Int) (r : Rot) (hw : 0 < w) (h : r.Ok) (hx : ∀ y, nxtO (foundR w t r) = some y → x < y) : ∀ y, t < y → y ≤ x → ¬ isB w y r := by
  intro y y1 y2 hb
  obtain ⟨z, z1, z2⟩ := found_b w t y r hw h y1 hb
  cases hF : foundR w t r with
  | nil => rw [hF] at z1; cases z1
  | cons a u =>
    rw [hF] at z1 hx
    have := (minI_spec u a).2 z z1
    have := hx _ rfl
    omega
theorem steady (w t x : Int) (r : Rot) (hw : 0 < w) (h : r.Ok) (hs : SpsOk w r) (h1 : t ≤ x) (hx : ∀ y, nxtO (foundR w t r) = some y → x < y) : whoR w x r = whoR w t r := by
  have hf := nxt_free w t x r hw h hx
  have := whoR_run w t r hw h hs (x - t).toNat fun y y1 y2 => hf y y1 (by omega)
  rw [show t + ((x - t).toNat : Int) = x by omega] at this
  exact this
theorem nxt_gt (w t : Int) (r : Rot) (hw : 0 < w) (h : r.Ok) (y : Int) (hy : nxtO (foundR w t r) = some y) : t < y := by
  cases hF : foundR w t r with
  | nil => rw [hF] at hy; cases hy
  | cons x xs => rw [hF] at hy; injection hy with hy; rw [← hy]; exact (found_a w t r hw h _ (by rw [hF]; exact (minI_spec xs x).1)).1
theorem nxt_bound (w t : Int) (r : Rot) (hw : 0 < w) (h : r.Ok) (hs : ∀ p ∈ r.ss, SubOk p) (hw2 : w ≤ 2000) (y : Int) (hy : nxtO (foundR w t r) = some y) : t < y ∧ (y ≤ t + 2001 ∨ y ≤ 20000) := by
  have hm : y ∈ foundR w t r := by
    cases hF : foundR w t r with
    | nil => rw [hF] at hy; cases hy
    | cons x xs => rw [hF] at hy; injection hy with hy; rw [← hy]; exact (minI_spec xs x).1
  obtain ⟨y1, _⟩ := found_a w t r hw h y hm
  refine ⟨y1, ?_⟩
  rcases List.mem_append.mp hm with hy | hy
  · obtain ⟨p, hp, hy⟩ := List.mem_flatMap.mp hy
    obtain ⟨_, q2, q3⟩ := hs p hp
    have : y = p.1 ∨ y = p.2.1 := by
      rcases List.mem_append.mp hy with hy | hy
      · split at hy
        · exact .inl (List.mem_singleton.mp hy)
        · cases hy
      · split at hy
        · exact .inr (List.mem_singleton.mp hy)
        · cases hy
    omega
  · obtain ⟨l, hl, hy⟩ := List.mem_flatMap.mp hy
    obtain ⟨_, _, hz⟩ := brkL_a w t l hw (h.ls l hl) y hy
    have q1 := (h.ls l hl).st2
    have q2 := (h.ls l hl).sh2
    rcases hz with hz | ⟨z1, z2⟩ | ⟨z1, z2⟩
    · omega
    · rcases imax_eq (t + 1) l.st with e | e <;> omega
    · rcases imax_eq (t + 1) l.st with e | e <;> omega
/-! ### stretches -/
abbrev Row := Int × Int × Option Str
def encW (p : Row) : D := .tuple [.int p.1, .int p.2.1, encO p.2.2]
def push (R : List Row) (a b : Int) (o : Option Str) : List Row := match R.reverse with
  | [] => [(a, b, o)]
  | l :: S => if l.2.2 = o then S.reverse ++ [(l.1, b, o)] else R ++ [(a, b, o)]
theorem push_nil (a b : Int) (o : Option Str) : push [] a b o = [(a, b, o)] := rfl
theorem push_snoc (S : List Row) (l : Row) (a b : Int) (o : Option Str) : push (S ++ [l]) a b o = if l.2.2 = o then S ++ [(l.1, b, o)] else S ++ [l] ++ [(a, b, o)] := by
  unfold push
  rw [List.reverse_append]
  simp
theorem snoc_cases {α : Type} (R : List α) : R = [] ∨ ∃ S l, R = S ++ [l] := by
  rcases List.eq_nil_or_concat R with h | ⟨S, l, h⟩
  · exact .inl h
  · exact .inr ⟨S, l, by rw [h]; simp⟩
theorem push_len (R : List Row) (a b : Int) (o : Option Str) : (push R a b o).length ≤ R.length + 1 := by
  rcases snoc_cases R with rfl | ⟨S, l, rfl⟩
  · simp [push_nil]
  · rw [push_snoc]; split <;> simp
theorem push_push (R : List Row) (a b c : Int) (x : Int) (o : Option Str) : push (push R a b o) x c o = push R a c o := by
  rcases snoc_cases R with rfl | ⟨S, l, rfl⟩
  · rw [push_nil, push_nil, show [(a, b, o)] = [] ++ [((a, b, o) : Row)] from rfl, push_snoc]; simp
  · rw [push_snoc, push_snoc]
    by_cases h : l.2.2 = o
    · rw [if_pos h, if_pos h, push_snoc]; simp
    · rw [if_neg h, if_neg h, push_snoc]; simp
theorem irng_snoc {a b : Int} (h : a ≤ b) : irng a (b + 1) = irng a b ++ [b] := by
  unfold irng
  rw [show (b + 1 - a).toNat = (b - a).toNat + 1 by omega, List.range_succ, List.map_append]
  congr 1
  simp only [List.map_cons, List.map_nil]
  congr 1
  omega
def runsT (w : Int) (r : Rot) (R : List Row) (a b : Int) : List Row := (irng a b).foldl (fun R x => push R x (x + 1) (whoR w x r)) R
theorem push_run (w : Int) (r : Rot) (p : Option Str) (R : List Row) (t : Int) : ∀ n : Nat, (∀ x, t ≤ x → x ≤ t + n → whoR w x r = p) → runsT w r R t (t + n + 1) = push R t (t + n + 1) p
  | 0, h => by
    unfold runsT
    rw [irng_snoc (by omega), irng_nil (by omega)]
    simp only [List.nil_append, List.foldl_cons, List.foldl_nil]
    rw [show t + ((0 : Nat) : Int) = t by omega, h t (by omega) (by omega)]
  | n + 1, h => by
    have ih := push_run w r p R t n fun x h1 h2 => h x h1 (by omega)
    unfold runsT at ih ⊢
    rw [irng_snoc (by omega), List.foldl_append, show t + ((n + 1 : Nat) : Int) = t + n + 1 by omega, ih]
    simp only [List.foldl_cons, List.foldl_nil]
    rw [h (t + n + 1) (by omega) (by omega), push_push]
theorem irng_app {a b c : Int} (h : a ≤ b) (h2 : b ≤ c) : irng a c = irng a b ++ irng b c := by
  generalize hk : (c - b).toNat = k
  induction k generalizing c with
  | zero => rw [show c = b by omega, irng_nil (Int.le_refl b), List.append_nil]
  | succ k ih =>
    have e := ih (c := c - 1) (by omega) (by omega)
    have e1 := irng_snoc (a := a) (b := c - 1) (by omega)
    have e2 := irng_snoc (a := b) (b := c - 1) (by omega)
    rw [show c - 1 + 1 = c by omega] at e1 e2
    rw [e1, e2, e, List.append_assoc]
theorem runs_app (w : Int) (r : Rot) (R : List Row) {a b c : Int} (h : a ≤ b) (h2 : b ≤ c) : runsT w r R a c = runsT w r (runsT w r R a b) b c := by
  unfold runsT
  rw [irng_app h h2, List.foldl_append]
theorem runs_len (w : Int) (r : Rot) (a b : Int) : (runsT w r [] a b).length ≤ (b - a).toNat := by
  have : ∀ (u : List Int) (R : List Row), (u.foldl (fun R x => push R x (x + 1) (whoR w x r)) R).length ≤ R.length + u.length := by
    intro u
    induction u with
    | nil => intro R; exact Nat.le_refl _
    | cons x u ih =>
      intro R
      have := ih (push R x (x + 1) (whoR w x r))
      have := push_len R x (x + 1) (whoR w x r)
      rw [List.foldl_cons, List.length_cons]
      omega
  have := this (irng a b) []
  rw [irng_len] at this
  simp only [List.length_nil, Nat.zero_add] at this
  exact this
theorem eqS_o (a b : Option Str) : eqS false (.d (encO a)) (.d (encO b)) = .ok (.d (.bool (decide (a = b)))) := by
  cases a <;> cases b <;> simp [encO, eqS]
theorem last_at (S : List Row) (l : Row) : atI ((S ++ [l]).map encW) (-1) = some (encW l) := by
  unfold atI ixN
  rw [if_neg (by omega), if_pos (by simp; omega)]
  simp
  rw [show (-1 + ((S.length : Int) + 1)).toNat = S.length by omega]
  simp
theorem last_ix (S : List Row) (l : Row) : ixN ((S ++ [l]).map encW).length (-1) = some S.length := by
  unfold ixN
  rw [if_neg (by omega), if_pos (by simp; omega)]
  simp
  omega
theorem last_set (S : List Row) (l : Row) (d : D) : ((S ++ [l]).map encW).set S.length d = S.map encW ++ [d] := by
  rw [List.map_append, List.set_append]
  simp
def laterO (l : Int) : Option Int → Int
  | none => l
  | some y => if l < y then l else y
abbrev eS (w : Int) (r : Rot) (f l : Int) (R : List Row) (t : Int) : En := [some (.d (.int w)), some (.d (encR r)), some (.d (.int f)), some (.d (.int l)), some (.ol (R.map encW)), some (.d (.int t)), none, none]
def strA : En → R Fl := (seqS (asgS 6 (callF 3 on_call_f (conA (getV 0) (conA (getV 1) (conA (getV 5) nilA)))))
    (seqS (asgS 7 (callF 3 next_break_f (conA (getV 0) (conA (getV 1) (conA (getV 5) nilA)))))
    ((ifS (orT (asT (bin (isnS false) (peek 7) (kon .none))) (asT (bin gtS (peek 7) (peek 3)))) (asgS 7 (getV 3)) skip))))
def strB : En → R Fl :=
    (seqS (ifS (andT (tru (peek 4)) (asT (bin (eqS false) (bin ixS (bin ixS (peek 4) (una negS (kon (.int 1)))) (kon (.int 2))) (peek 6)))) (frzS [6, 7] (setS 4 (una negS (kon (.int 1))) (dispT (conA (bin ixS (bin ixS (peek 4) (una negS (kon (.int 1)))) (kon (.int 0))) (conA (getV 7) (conA (getV 6) nilA)))))) (frzS [6, 7] (appS 4 (dispT (conA (getV 5) (conA (getV 7) (conA (getV 6) nilA)))))))
    (frzS [7] (asgS 5 (getV 7))))
theorem str_eq : stretches_w1 = kill [6, 7] (seqS strA strB) := by
  unfold strA strB
  simp only [seqS_assoc]
  rfl
theorem strA_ok (w t f l : Int) (r : Rot) (R : List Row) (hw : 0 < w) (h : r.Ok) :
    strA (eS w r f l R t) = .ok (.nx [some (.d (.int w)), some (.d (encR r)), some (.d (.int f)), some (.d (.int l)), some (.ol (R.map encW)), some (.d (.int t)), some (.d (encO (whoR w t r))), some (.d (.int (laterO l (nxtO (foundR w t r)))))]) := by
  have a1 := on_call_ok w t r hw h
  have a2 := next_break_ok w t r hw h
  unfold strA
  generalize nxtO (foundR w t r) = o at *
  cases o with
  | none =>
    have a2' : next_break_f [.int w, encR r, .int t] = .ok (.d .none) := a2
    simp [a1, a2', laterO]
  | some y =>
    have a2' : next_break_f [.int w, encR r, .int t] = .ok (.d (.int y)) := a2
    by_cases c : l < y
    · simp [a1, a2', laterO, c]
    · simp [a1, a2', laterO, c]
theorem strB_ok (w t f l z : Int) (r : Rot) (R : List Row) (o : Option Str) (hR : R.length < 100000) :
    strB [some (.d (.int w)), some (.d (encR r)), some (.d (.int f)), some (.d (.int l)), some (.ol (R.map encW)), some (.d (.int t)), some (.d (encO o)), some (.d (.int z))] = .ok (.nx [some (.d (.int w)), some (.d (encR r)), some (.d (.int f)), some (.d (.int l)), some (.ol ((push R t z o).map encW)), some (.d (.int z)), some (.d (encO o)), some (.d (.int z))]) := by
  have hz := line16
  have h0 : R.length < sizeLine := by omega
  unfold strB
  rcases snoc_cases R with rfl | ⟨S, k, rfl⟩
  · rw [push_nil]
    have h0' : 0 < sizeLine := by omega
    simp [h0', encW]
  · have e1 := last_at S k
    have e2 := last_ix S k
    have e3 := last_set S k (.tuple [.int k.1, .int z, encO o])
    have e4 := eqS_o k.2.2 o
    have e5 : atI [PyData.int k.1, PyData.int k.2.1, encO k.2.2] 2 = some (encO k.2.2) := rfl
    have e6 : atI [PyData.int k.1, PyData.int k.2.1, encO k.2.2] 0 = some (PyData.int k.1) := rfl
    have e7 : encW k = .tuple [.int k.1, .int k.2.1, encO k.2.2] := rfl
    have hln : ((S ++ [k]).map encW).isEmpty = false := by simp
    have hl2 : ((S ++ [k]).map encW).length < sizeLine := by simpa using h0
    rw [push_snoc]
    generalize hL : (S ++ [k]).map encW = L at *
    rw [e7] at e1
    by_cases hc : k.2.2 = o
    · rw [if_pos hc]
      simp only [decide_eq_true hc] at e4
      simp [setS, e1, e2, e3, e4, e5, e6, hln]
      simp [encW]
    · rw [if_neg hc]
      simp only [decide_eq_false hc] at e4
      simp [e1, e2, e4, e5, e6, hln, hl2]
      rw [← hL]; simp [encW]
theorem str_w1_ok (w t f l : Int) (r : Rot) (R : List Row) (hw : 0 < w) (h : r.Ok) (hR : R.length < 100000) :
    stretches_w1 (eS w r f l R t) = .ok (.nx (eS w r f l (push R t (laterO l (nxtO (foundR w t r))) (whoR w t r)) (laterO l (nxtO (foundR w t r))))) := by
  rw [str_eq]
  exact kill_nx (seq_nx (strA_ok w t f l r R hw h) (strB_ok w t f l _ r R _ hR)) rfl
theorem later_ok (w t l : Int) (r : Rot) (hw : 0 < w) (h : r.Ok) (hp : SpsOk w r) (hl : t < l) (R : List Row) :
    t < laterO l (nxtO (foundR w t r)) ∧ laterO l (nxtO (foundR w t r)) ≤ l ∧ push R t (laterO l (nxtO (foundR w t r))) (whoR w t r) = runsT w r R t (laterO l (nxtO (foundR w t r))) := by
  have hst := fun x => steady w t x r hw h hp
  have hgt := fun y => nxt_gt w t r hw h y
  generalize nxtO (foundR w t r) = o at *
  have h1 : t < laterO l o ∧ laterO l o ≤ l ∧ ∀ y, o = some y → laterO l o ≤ y := by
    cases o with
    | none => exact ⟨hl, Int.le_refl _, fun y hy => nomatch hy⟩
    | some y =>
      have := hgt y rfl
      unfold laterO
      refine ⟨?_, ?_, fun z hz => ?_⟩
      · show t < if l < y then l else y; split <;> omega
      · show (if l < y then l else y) ≤ l; split <;> omega
      · injection hz with hz
        show (if l < y then l else y) ≤ z; split <;> omega
  obtain ⟨a, b, c⟩ := h1
  refine ⟨a, b, ?_⟩
  have := push_run w r (whoR w t r) R t (laterO l o - t - 1).toNat fun x x1 x2 => hst x x1 fun y hy => by have := c y hy; omega
  rw [show t + ((laterO l o - t - 1).toNat : Int) + 1 = laterO l o by omega] at this
  exact this.symm
theorem str_loop (w f l : Int) (r : Rot) (hw : 0 < w) (h : r.Ok) (hp : SpsOk w r) (hb : l ≤ f + 90000) : ∀ (n : Nat) (t : Int), f ≤ t → (t ≤ l ∨ t = f) → (l - t).toNat < n → ∃ t', whileF n stretches_t1 stretches_w1 (eS w r f l (runsT w r [] f t) t) = .ok (.nx (eS w r f l (runsT w r [] f l) t'))
  | 0, t, _, _, hn => by omega
  | n + 1, t, h1, h2, hn => by
    unfold whileF
    by_cases c : t < l
    · have e1 : stretches_t1 (eS w r f l (runsT w r [] f t) t) = .ok true := by
        unfold stretches_t1
        simp [c]
      have hl := runs_len w r f t
      obtain ⟨a1, a2, a3⟩ := later_ok w t l r hw h hp c (runsT w r [] f t)
      have e2 := str_w1_ok w t f l r (runsT w r [] f t) hw h (by omega)
      rw [a3] at e2
      generalize laterO l (nxtO (foundR w t r)) = z at *
      rw [← runs_app w r [] h1 (by omega)] at e2
      obtain ⟨t', ht⟩ := str_loop w f l r hw h hp hb n z (by omega) (.inl a2) (by omega)
      refine ⟨t', ?_⟩
      rw [e1, ok_bind, if_pos rfl, e2, ok_bind]
      exact ht
    · have e1 : stretches_t1 (eS w r f l (runsT w r [] f t) t) = .ok false := by
        unfold stretches_t1
        simp [c]
      have e : runsT w r [] f t = runsT w r [] f l := by
        rcases h2 with h2 | h2
        · rw [show t = l by omega]
        · unfold runsT
          rw [irng_nil (by omega), irng_nil (by omega)]
      refine ⟨t, ?_⟩
      rw [e1, ok_bind, if_neg Bool.false_ne_true, e]
theorem stretches_ok (w f l : Int) (r : Rot) (hw : 0 < w) (h : r.Ok) (hp : SpsOk w r) (hb : l ≤ f + 90000) :
    stretches_f [.int w, encR r, .int f, .int l] = .ok (.ol ((runsT w r [] f l).map encW)) := by
  obtain ⟨t', ht⟩ := str_loop w f l r hw h hp hb 1000000 f (Int.le_refl _) (.inr rfl) (by omega)
  have e0 : runsT w r [] f f = [] := by unfold runsT; rw [irng_nil (Int.le_refl _)]; rfl
  rw [e0] at ht
  have hb : ∀ ρ, ρ = [some (.d (.int w)), some (.d (encR r)), some (.d (.int f)), some (.d (.int l)), none, none, none, none] → stretches_b ρ = .ok (.rt (.ol ((runsT w r [] f l).map encW))) := by
    rintro _ rfl
    unfold stretches_b
    exact seq_nx (asg_nx (r := .ol []) rfl rfl) (seq_nx (asg_nx (r := .d (.int f)) rfl rfl) (seq_nx (ρ1 := eS w r f l (runsT w r [] f l) t') ht rfl))
  exact runB_rt (hb _ rfl) rfl
theorem foldl_or {α β : Type} (f : α → Option β) : ∀ (xs : List α) (z : Option β), xs.foldl (fun a x => (f x).or a) z = (xs.reverse.findSome? f).or z
  | [], z => rfl
  | x :: xs, z => by
    rw [List.foldl_cons, foldl_or f xs, List.reverse_cons, List.findSome?_append]
    cases List.findSome? f xs.reverse with
    | some y => rfl
    | none =>
      cases h : f x with
      | some y => simp [h]
      | none => simp [h]
abbrev eO (w t : Int) (r : Rot) (p : Option Str) (x : Option SV) : En := [some (.d (.int w)), some (.d (encR r)), some (.d (.int t)), some (.d (encO p)), none, x, none, none]
theorem on_l1 (w t : Int) (r : Rot) (hw : 0 < w) (u : List Lay) (hu : ∀ l ∈ u, l.Ok) (p : Option Str) : forF (setD 4) law_on_w1 (u.map encL) (eO w t r p none) = .ok (.nx (eO w t r (u.foldl (fun a l => (whoL w t l).or a) p) none)) := by
  induction u generalizing p with
  | nil => rfl
  | cons l u ih =>
    have hm := member_ok w t l hw (hu l List.mem_cons_self)
    rw [List.map_cons, forF, List.foldl_cons]
    have e2 : law_on_w1 [some (.d (.int w)), some (.d (encR r)), some (.d (.int t)), some (.d (encO p)), some (.d (encL l)), none, none, none] = .ok (.nx (eO w t r ((whoL w t l).or p) none)) := by
      unfold law_on_w1
      cases hq : whoL w t l with
      | some s => rw [hq] at hm; simp [hm, encO]
      | none => rw [hq] at hm; simp [hm, encO]
    simp only [setD_ap, List.set_cons_succ, List.set_cons_zero, e2, ok_bind]
    exact ih (fun k hk => hu k (List.mem_cons_of_mem _ hk)) _
theorem on_l2 (w t : Int) (r : Rot) (u : List (Int × Int × Str)) (p : Option Str) (x : Option SV) : ∃ y, forF (tupG 3 (gsC (setD 6) (gsC (setD 7) (gsC (setD 5) gsN)))) law_on_w2 (u.map encT) (eO w t r p x) = .ok (.nx (eO w t r (u.foldl (fun a q => (subF t q).or a) p) y)) := by
  induction u generalizing p x with
  | nil => exact ⟨x, rfl⟩
  | cons q u ih =>
    obtain ⟨a, b, s⟩ := q
    obtain ⟨y, hy⟩ := ih ((subF t (a, b, s)).or p) (some (.d (.str s)))
    refine ⟨y, ?_⟩
    rw [List.map_cons, forF, List.foldl_cons]
    have e1 : tupG 3 (gsC (setD 6) (gsC (setD 7) (gsC (setD 5) gsN))) (encT (a, b, s)) (eO w t r p x) = .ok [some (.d (.int w)), some (.d (encR r)), some (.d (.int t)), some (.d (encO p)), none, some (.d (.str s)), some (.d (.int a)), some (.d (.int b))] := rfl
    have e2 : law_on_w2 [some (.d (.int w)), some (.d (encR r)), some (.d (.int t)), some (.d (encO p)), none, some (.d (.str s)), some (.d (.int a)), some (.d (.int b))] = .ok (.nx (eO w t r ((subF t (a, b, s)).or p) (some (.d (.str s))))) := by
      unfold law_on_w2 subF
      by_cases h1 : a ≤ t
      · by_cases h2 : t < b
        · simp [h1, h2, encO]
        · simp [h1, h2]
      · simp [h1]
    simp only [e1, e2, ok_bind]
    exact hy
theorem on_ok (w t : Int) (r : Rot) (hw : 0 < w) (h : r.Ok) : law_on_f [.int w, encR r, .int t] = .ok (.d (encO (whoR w t r))) := by
  have h1 := on_l1 w t r hw r.ls h.ls none
  obtain ⟨y, h2⟩ := on_l2 w t r r.ss (r.ls.foldl (fun a l => (whoL w t l).or a) none) none
  rw [foldl_or (subF t), foldl_or (whoL w t), Option.or_none] at h2
  rw [foldl_or (whoL w t), Option.or_none] at h1
  have ix1 : ixS (.d (encR r)) (.d (.int 1)) = .ok (.d (.tuple (r.ls.map encL))) := rfl
  have ix2 : ixS (.d (encR r)) (.d (.int 2)) = .ok (.d (.tuple (r.ss.map encT))) := rfl
  have hb : ∀ ρ, ρ = [some (.d (.int w)), some (.d (encR r)), some (.d (.int t)), none, none, none, none, none] → law_on_b ρ = .ok (.rt (.d (encO (whoR w t r)))) := by
    rintro _ rfl
    unfold law_on_b
    refine seq_nx (asg_nx (r := .d .none) rfl rfl) (seq_nx (ρ1 := eO w t r (r.ls.reverse.findSome? (whoL w t)) none) ?_ (seq_nx (ρ1 := eO w t r (whoR w t r) y) ?_ ?_))
    · rw [forS_ap]; simp only [seqD_ap, bin_ap, peek_ap, kon_ap, ok_bind, List.set_cons_succ, List.set_cons_zero, List.getElem?_cons_zero, List.getElem?_cons_succ, ix1]; exact h1
    · rw [forS_ap]; simp only [seqD_ap, bin_ap, peek_ap, kon_ap, ok_bind, List.set_cons_succ, List.set_cons_zero, List.getElem?_cons_zero, List.getElem?_cons_succ, ix2]; exact h2
    · rfl
  exact runB_rt (hb _ rfl) rfl
/-! ### the settled time -/
def setR (r : Rot) : Int := (r.ss.map fun p => p.2.1).foldl imax ((r.ls.map fun l => l.st).foldl imax 0)
theorem imax_le (a b : Int) : a ≤ imax a b ∧ b ≤ imax a b := by unfold imax; split <;> omega
theorem fold_ge : ∀ (u : List Int) (m : Int), m ≤ u.foldl imax m ∧ ∀ x ∈ u, x ≤ u.foldl imax m
  | [], m => ⟨Int.le_refl _, fun _ h => nomatch h⟩
  | y :: u, m => by
    obtain ⟨h1, h2⟩ := fold_ge u (imax m y)
    have := imax_le m y
    rw [List.foldl_cons]
    refine ⟨by omega, fun x hx => ?_⟩
    rcases List.mem_cons.mp hx with rfl | hx
    · omega
    · exact h2 x hx
theorem maxI_fold : ∀ (u : List Int) (m : Int), maxI m u = u.foldl imax m
  | [], _ => rfl
  | x :: u, m => by
    unfold maxI
    rw [maxI_fold u, List.foldl_cons]; rfl
theorem setR_ls {r : Rot} {l : Lay} (h : l ∈ r.ls) : l.st ≤ setR r := by
  have a := (fold_ge (r.ls.map fun l => l.st) 0).2 l.st (List.mem_map.mpr ⟨l, h, rfl⟩)
  have b := (fold_ge (r.ss.map fun p => p.2.1) ((r.ls.map fun l => l.st).foldl imax 0)).1
  unfold setR; omega
theorem setR_ss {r : Rot} {p : Int × Int × Str} (h : p ∈ r.ss) : p.2.1 ≤ setR r := by
  have := (fold_ge (r.ss.map fun p : Int × Int × Str => p.2.1) ((r.ls.map fun l : Lay => l.st).foldl imax 0)).2 p.2.1 (List.mem_map.mpr ⟨p, h, rfl⟩)
  unfold setR; exact this
theorem setR_nn (r : Rot) : 0 ≤ setR r := by
  have a := (fold_ge (r.ls.map fun l => l.st) 0).1
  have b := (fold_ge (r.ss.map fun p => p.2.1) ((r.ls.map fun l => l.st).foldl imax 0)).1
  unfold setR; omega
theorem ixL1 (l : Lay) : ixS (.d (encL l)) (.d (.int 1)) = .ok (.d (.int l.st)) := rfl
theorem ixT1 (p : Int × Int × Str) : ixS (.d (encT p)) (.d (.int 1)) = .ok (.d (.int p.2.1)) := rfl
theorem ixR1 (r : Rot) : ixS (.d (encR r)) (.d (.int 1)) = .ok (.d (.tuple (r.ls.map encL))) := rfl
theorem ixR2 (r : Rot) : ixS (.d (encR r)) (.d (.int 2)) = .ok (.d (.tuple (r.ss.map encT))) := rfl
theorem set_l1 (R : D) : ∀ (u : List Lay) (E : List Int), E.length + u.length ≤ 1000 → forF (setD 2) settled_w1 (u.map encL) [some (.d R), some (.ol (E.map PyData.int)), none, none] = .ok (.nx [some (.d R), some (.ol ((E ++ u.map fun l => l.st).map PyData.int)), none, none])
  | [], E, _ => by simp [forF]
  | l :: u, E, h => by
    have hz := line16
    have hl : E.length < sizeLine := by simp at h; omega
    have s : settled_w1 [some (.d R), some (.ol (E.map PyData.int)), some (.d (encL l)), none] = .ok (.nx [some (.d R), some (.ol ((E ++ [l.st]).map PyData.int)), none, none]) := by
      unfold settled_w1; simp [ixL1, hl]
    rw [List.map_cons, forF]
    simp only [setD_ap, List.set_cons_succ, List.set_cons_zero, s, ok_bind]
    rw [set_l1 R u (E ++ [l.st]) (by simp at h ⊢; omega)]
    simp
theorem set_l2 (R : D) : ∀ (u : List (Int × Int × Str)) (E : List Int), E.length + u.length ≤ 1000 → forF (setD 3) settled_w2 (u.map encT) [some (.d R), some (.ol (E.map PyData.int)), none, none] = .ok (.nx [some (.d R), some (.ol ((E ++ u.map fun l => l.2.1).map PyData.int)), none, none])
  | [], E, _ => by simp [forF]
  | l :: u, E, h => by
    have hz := line16
    have hl : E.length < sizeLine := by simp at h; omega
    have s : settled_w2 [some (.d R), some (.ol (E.map PyData.int)), none, some (.d (encT l))] = .ok (.nx [some (.d R), some (.ol ((E ++ [l.2.1]).map PyData.int)), none, none]) := by
      unfold settled_w2; simp [ixT1, hl]
    rw [List.map_cons, forF]
    simp only [setD_ap, List.set_cons_succ, List.set_cons_zero, s, ok_bind]
    rw [set_l2 R u (E ++ [l.2.1]) (by simp at h ⊢; omega)]
    simp
theorem intsD_ints : ∀ ns : List Int, intsD (ns.map PyData.int) = some ns
  | [] => rfl
  | n :: r => by
    show (intsD (r.map PyData.int)).map _ = _
    rw [intsD_ints r]; rfl
theorem settled_ok (r : Rot) (h : r.Ok) : settled_f [encR r] = .ok (.d (.int (setR r))) := by
  have l1 := set_l1 (encR r) r.ls [0] (by have := h.ll; simp; omega)
  have l2 := set_l2 (encR r) r.ss ([0] ++ r.ls.map fun l => l.st) (by have := h.ll; have := h.sl; simp; omega)
  have e : maxS [.ol ((([0] ++ r.ls.map fun l : Lay => l.st) ++ r.ss.map fun l : Int × Int × Str => l.2.1).map PyData.int)] = .ok (.d (.int (setR r))) := by
    unfold maxS
    simp only [datL, intsD_ints]
    show R.ok (SV.d (.int (maxI 0 ((r.ls.map fun l : Lay => l.st) ++ r.ss.map fun l : Int × Int × Str => l.2.1)))) = _
    rw [maxI_fold, List.foldl_append]; rfl
  have hb : ∀ ρ, ρ = [some (.d (encR r)), none, none, none] → settled_b ρ = .ok (.rt (.d (.int (setR r)))) := by
    rintro _ rfl
    unfold settled_b
    refine seq_nx (asg_nx (r := .ol [.int 0]) rfl rfl) (seq_nx (forS_tup (by simp only [bin_ap, peek_ap, kon_ap, ok_bind, List.set_cons_succ, List.set_cons_zero, List.getElem?_cons_zero, ixR1]) l1) (seq_nx (forS_tup (by simp only [bin_ap, peek_ap, kon_ap, ok_bind, List.getElem?_cons_zero, ixR2]) l2) ?_))
    rw [retS_ap, callB_ap, conB_ap]
    simp only [peek_ap, nilB_ap, ok_bind, List.getElem?_cons_succ, List.getElem?_cons_zero, e]
  exact runB_rt (hb _ rfl) rfl
theorem lset_l1 (R : D) : ∀ (u : List Lay) (m : Int), forF (setD 2) law_settled_w1 (u.map encL) [some (.d R), some (.d (.int m)), none, none] = .ok (.nx [some (.d R), some (.d (.int ((u.map fun l => l.st).foldl imax m))), none, none])
  | [], _ => rfl
  | l :: u, m => by
    have s : law_settled_w1 [some (.d R), some (.d (.int m)), some (.d (encL l)), none] = .ok (.nx [some (.d R), some (.d (.int (imax m l.st))), none, none]) := by
      unfold law_settled_w1; simp [ixL1]
    rw [List.map_cons, forF]
    simp only [setD_ap, List.set_cons_succ, List.set_cons_zero, s, ok_bind]
    rw [lset_l1 R u]; rfl
theorem lset_l2 (R : D) : ∀ (u : List (Int × Int × Str)) (m : Int), forF (setD 3) law_settled_w2 (u.map encT) [some (.d R), some (.d (.int m)), none, none] = .ok (.nx [some (.d R), some (.d (.int ((u.map fun l => l.2.1).foldl imax m))), none, none])
  | [], _ => rfl
  | l :: u, m => by
    have s : law_settled_w2 [some (.d R), some (.d (.int m)), none, some (.d (encT l))] = .ok (.nx [some (.d R), some (.d (.int (imax m l.2.1))), none, none]) := by
      unfold law_settled_w2; simp [ixT1]
    rw [List.map_cons, forF]
    simp only [setD_ap, List.set_cons_succ, List.set_cons_zero, s, ok_bind]
    rw [lset_l2 R u]; rfl
theorem lsettled_ok (r : Rot) : law_settled_f [encR r] = .ok (.d (.int (setR r))) := by
  have l1 := lset_l1 (encR r) r.ls 0
  have l2 := lset_l2 (encR r) r.ss ((r.ls.map fun l => l.st).foldl imax 0)
  have hb : ∀ ρ, ρ = [some (.d (encR r)), none, none, none] → law_settled_b ρ = .ok (.rt (.d (.int (setR r)))) := by
    rintro _ rfl
    unfold law_settled_b
    exact seq_nx (asg_nx (r := .d (.int 0)) rfl rfl) (seq_nx (forS_tup (by simp only [bin_ap, peek_ap, kon_ap, ok_bind, List.set_cons_succ, List.set_cons_zero, List.getElem?_cons_zero, ixR1]) l1) (seq_nx (forS_tup (by simp only [bin_ap, peek_ap, kon_ap, ok_bind, List.getElem?_cons_zero, ixR2]) l2) rfl))
  exact runB_rt (hb _ rfl) rfl
/-! ### the period -/
theorem lcm_first {a b k : Nat} (ha : 0 < a) (hd : b ∣ a * (k + 1)) (hn : ∀ j, j < k → ¬ b ∣ a * (j + 1)) : a * (k + 1) = Nat.lcm a b := by
  have h1 : Nat.lcm a b ∣ a * (k + 1) := Nat.lcm_dvd (Nat.dvd_mul_right _ _) hd
  obtain ⟨q, hq⟩ := Nat.dvd_lcm_left a b
  have hpos : 0 < a * (k + 1) := Nat.mul_pos ha (by omega)
  have hl : 0 < Nat.lcm a b := Nat.pos_of_dvd_of_pos h1 hpos
  have hq0 : 0 < q := by
    rcases Nat.eq_zero_or_pos q with z | z
    · rw [z] at hq; omega
    · exact z
  have h2 : k + 1 ≤ q := by
    rcases Nat.lt_or_ge (q - 1) k with z | z
    · have := hn (q - 1) z
      rw [show q - 1 + 1 = q by omega, ← hq] at this
      exact absurd (Nat.dvd_lcm_right a b) this
    · omega
  have h3 := Nat.le_of_dvd hpos h1
  have h4 : a * (k + 1) ≤ a * q := Nat.mul_le_mul_left _ h2
  rw [← hq] at h4
  omega
theorem lcm_loop (a b : Nat) (ha : 0 < a) (hb : 0 < b) : ∀ (n k : Nat), k + (n + 1) = b → (∀ j, j < k → ¬ b ∣ a * (j + 1)) → forF (setD 3) law_lcm_w1 ((irng k b).map PyData.int) [some (.d (.int a)), some (.d (.int b)), some (.d (.int ((a * (k + 1) : Nat) : Int))), none] = .ok (.rt (.d (.int ((Nat.lcm a b : Nat) : Int))))
  | n, k, hk, hn => by
    rw [irng_cons (by omega), List.map_cons, forF]
    have hbi : (0 : Int) < b := by omega
    by_cases c : b ∣ a * (k + 1)
    · have e := lcm_first ha c hn
      have cz : ((a * (k + 1) : Nat) : Int) % (b : Int) = 0 := by
        rw [← Int.natCast_emod, Nat.mod_eq_zero_of_dvd c]; rfl
      have s : law_lcm_w1 [some (.d (.int a)), some (.d (.int b)), some (.d (.int ((a * (k + 1) : Nat) : Int))), some (.d (.int k))] = .ok (.rt (.d (.int ((a * (k + 1) : Nat) : Int)))) := by
        generalize ((a * (k + 1) : Nat) : Int) = X at *
        unfold law_lcm_w1; simp [hbi, hb, cz]
      simp only [setD_ap, List.set_cons_succ, List.set_cons_zero, s, ok_bind]
      rw [e]
    · have cz : ¬ ((a * (k + 1) : Nat) : Int) % (b : Int) = 0 := by
        rw [← Int.natCast_emod]
        intro z
        exact c (Nat.dvd_of_mod_eq_zero (by omega))
      have ea : ((a * (k + 1 + 1) : Nat) : Int) = ((a * (k + 1) : Nat) : Int) + a := by
        rw [show a * (k + 1 + 1) = a * (k + 1) + a from rfl]; omega
      have s : law_lcm_w1 [some (.d (.int a)), some (.d (.int b)), some (.d (.int ((a * (k + 1) : Nat) : Int))), some (.d (.int k))] = .ok (.nx [some (.d (.int a)), some (.d (.int b)), some (.d (.int ((a * (k + 1 + 1) : Nat) : Int))), none]) := by
        rw [ea]
        generalize ((a * (k + 1) : Nat) : Int) = X at *
        unfold law_lcm_w1; simp [hbi, hb, cz]
      simp only [setD_ap, List.set_cons_succ, List.set_cons_zero, s, ok_bind]
      have hk1 : k + 1 < b := by
        rcases Nat.lt_or_ge (k + 1) b with z | z
        · exact z
        · exfalso
          have : k + 1 = b := by omega
          exact c (by rw [this]; exact Nat.dvd_mul_left _ _)
      have hn' : ∀ j, j < k + 1 → ¬ b ∣ a * (j + 1) := fun j hj => by
        by_cases q : j = k
        · rw [q]; exact c
        · exact hn j (by omega)
      match n, hk with
      | 0, hk => omega
      | n + 1, hk =>
        have := lcm_loop a b ha hb n (k + 1) (by omega) hn'
        rw [show ((k : Int) + 1) = ((k + 1 : Nat) : Int) by omega]
        exact this
theorem llcm_ok (a b : Nat) (ha : 0 < a) (hb : 0 < b) (hb2 : b ≤ 1000000) : law_lcm_f [.int a, .int b] = .ok (.d (.int ((Nat.lcm a b : Nat) : Int))) := by
  have l := lcm_loop a b ha hb (b - 1) 0 (by omega) fun j hj => by omega
  rw [show a * (0 + 1) = a by omega, show ((0 : Nat) : Int) = 0 from rfl, ← rng_irng] at l
  have hR : okR (b : Int) = true := okR_of (by omega) (by omega)
  have hb : ∀ ρ, ρ = [some (.d (.int a)), some (.d (.int b)), none, none] → law_lcm_b ρ = .ok (.rt (.d (.int ((Nat.lcm a b : Nat) : Int)))) := by
    rintro _ rfl
    unfold law_lcm_b
    exact seq_nx (asg_nx (r := .d (.int a)) rfl rfl) (seq_rt (forS_rng1 (j := (b : Int)) rfl hR l))
  exact runB_rt (hb _ rfl) rfl
def perN (w : Nat) (m : Nat) (l : Lay) : Nat :=
  let m1 := if 1 < l.mem.length then Nat.lcm m (l.sh.toNat * l.mem.length) else m
  if l.sp = [] then m1 else Nat.lcm m1 w
def perR (w : Nat) (ls : List Lay) (m : Nat) : Nat := ls.foldl (perN w) m
theorem lcm_bd {m n B : Nat} (h : n ≤ B) : Nat.lcm m n ≤ m * B := Nat.le_trans (Pl.lcm_le _ _) (Nat.mul_le_mul_left _ h)
theorem mod_bd {l : Lay} (h : l.Ok) : l.sh.toNat * l.mem.length ≤ 10000 := Nat.mul_le_mul (show l.sh.toNat ≤ 1000 by have := h.sh2; omega) h.mem2
theorem mod_pos {l : Lay} (h : l.Ok) : 0 < l.sh.toNat * l.mem.length := Nat.mul_pos (by have := h.sh; omega) h.mem
theorem perN_bd {w m : Nat} {l : Lay} (h : l.Ok) (hw : w ≤ 2000) : perN w m l ≤ m * 20000000 := by
  unfold perN
  have a : (if 1 < l.mem.length then Nat.lcm m (l.sh.toNat * l.mem.length) else m) ≤ m * 10000 := by
    split
    · exact lcm_bd (mod_bd h)
    · omega
  generalize (if 1 < l.mem.length then Nat.lcm m (l.sh.toNat * l.mem.length) else m) = m1 at *
  show (if l.sp = [] then m1 else Nat.lcm m1 w) ≤ _
  split
  · omega
  · have := lcm_bd (m := m1) hw
    omega
theorem perN_pos {w m : Nat} {l : Lay} (h : l.Ok) (hw : 0 < w) (hm : 0 < m) : 0 < perN w m l := by
  unfold perN
  have a : 0 < (if 1 < l.mem.length then Nat.lcm m (l.sh.toNat * l.mem.length) else m) := by
    split
    · exact Nat.lcm_pos hm (mod_pos h)
    · exact hm
  generalize (if 1 < l.mem.length then Nat.lcm m (l.sh.toNat * l.mem.length) else m) = m1 at *
  show 0 < (if l.sp = [] then m1 else Nat.lcm m1 w)
  split
  · exact a
  · exact Nat.lcm_pos a hw
theorem perR_pos {w : Nat} (hw : 0 < w) : ∀ (ls : List Lay) (m : Nat), (∀ l ∈ ls, l.Ok) → 0 < m → 0 < perR w ls m
  | [], _, _, h => h
  | l :: ls, m, h, hm => perR_pos hw ls (perN w m l) (fun k hk => h k (List.mem_cons_of_mem _ hk)) (perN_pos (h l List.mem_cons_self) hw hm)
abbrev eP (w : Nat) (R : D) (m : Nat) (a b c d : Option SV) : En := [some (.d (.int w)), some (.d R), some (.d (.int m)), a, b, c, d]
theorem at_lay (w : Nat) (R : D) (m : Nat) (l : Lay) : tupG 4 (gsC (setD 3) (gsC (setD 4) (gsC (setD 5) (gsC (setD 6) gsN)))) (encL l) (eP w R m none none none none) = .ok (eP w R m (some (.d (.tuple (l.mem.map PyData.str)))) (some (.d (.int l.st))) (some (.d (.int l.sh))) (some (.d (.tuple (l.sp.map encS))))) := rfl
theorem sh_mul {l : Lay} (h : l.Ok) : l.sh * (l.mem.length : Int) = ((l.sh.toNat * l.mem.length : Nat) : Int) := by
  rw [Int.natCast_mul, show ((l.sh.toNat : Nat) : Int) = l.sh by have := h.sh; omega]
theorem per_w1 (w : Nat) (R : D) (m : Nat) (l : Lay) (h : l.Ok) (hw : 0 < w) (hw2 : w ≤ 2000) (hm : 0 < m) (hb : m * 10000 < 100000000000000000000000000000000000000000000000000) :
    period_w1 (eP w R m (some (.d (.tuple (l.mem.map PyData.str)))) (some (.d (.int l.st))) (some (.d (.int l.sh))) (some (.d (.tuple (l.sp.map encS))))) = .ok (.nx (eP w R (perN w m l) none none none none)) := by
  have o1 : okB (m : Int) = true := okB_of (by rw [Int.natAbs_natCast]; omega)
  have ow : okB (w : Int) = true := okB_of (by rw [Int.natAbs_natCast]; omega)
  have mb := mod_bd h
  have o2 : okB (((l.sh.toNat * l.mem.length : Nat)) : Int) = true := okB_of (by rw [Int.natAbs_natCast]; omega)
  have osh : okM l.sh = true := okM_of (by have := h.sh; omega) (by have := h.sh2; omega)
  have sm := sh_mul h
  unfold period_w1 perN
  have hlc := lcm_bd (m := m) mb
  by_cases c1 : 1 < l.mem.length
  · have c1i : (1 : Int) < (l.mem.length : Int) := by omega
    have o3 : okB ((Nat.lcm m (l.sh.toNat * l.mem.length) : Nat) : Int) = true := okB_of (by rw [Int.natAbs_natCast]; omega)
    by_cases c2 : l.sp = []
    · simp [c1, c1i, c2, osh, sm, o1, o2, Int.natAbs_natCast, -Int.natCast_mul]
    · have c2' : ¬ (l.sp.map encS) = [] := by simpa using c2
      have c3 : (l.sp.map encS).isEmpty = false := by cases q : l.sp with | nil => exact absurd q c2 | cons _ _ => rfl
      simp [c1, c1i, c2, c3, osh, sm, o1, o2, o3, ow, Int.natAbs_natCast, -Int.natCast_mul]
  · have c1i : ¬ (1 : Int) < (l.mem.length : Int) := by omega
    by_cases c2 : l.sp = []
    · simp [c1, c1i, c2]
    · have c3 : (l.sp.map encS).isEmpty = false := by cases q : l.sp with | nil => exact absurd q c2 | cons _ _ => rfl
      simp [c1, c1i, c2, c3, o1, ow, Int.natAbs_natCast]
theorem lper_w1 (w : Nat) (R : D) (m : Nat) (l : Lay) (h : l.Ok) (hw : 0 < w) (hw2 : w ≤ 2000) (hm : 0 < m) :
    law_period_w1 (eP w R m (some (.d (.tuple (l.mem.map PyData.str)))) (some (.d (.int l.st))) (some (.d (.int l.sh))) (some (.d (.tuple (l.sp.map encS))))) = .ok (.nx (eP w R (perN w m l) none none none none)) := by
  have osh : okM l.sh = true := okM_of (by have := h.sh; omega) (by have := h.sh2; omega)
  have sm := sh_mul h
  have mb := mod_bd h
  have q1 := llcm_ok m (l.sh.toNat * l.mem.length) hm (mod_pos h) (by omega)
  have q2 := llcm_ok (Nat.lcm m (l.sh.toNat * l.mem.length)) w (Nat.lcm_pos hm (mod_pos h)) hw (by omega)
  have q3 := llcm_ok m w hm hw (by omega)
  unfold law_period_w1 perN
  by_cases c1 : 1 < l.mem.length
  · have c1i : (1 : Int) < (l.mem.length : Int) := by omega
    by_cases c2 : l.sp = []
    · simp [c1, c1i, c2, osh, sm, q1, -Int.natCast_mul]
    · have c3 : 0 < l.sp.length := by cases q : l.sp with | nil => exact absurd q c2 | cons _ _ => simp
      simp [c1, c1i, c2, c3, osh, sm, q1, q2, -Int.natCast_mul]
  · have c1i : ¬ (1 : Int) < (l.mem.length : Int) := by omega
    by_cases c2 : l.sp = []
    · simp [c1, c1i, c2]
    · have c3 : 0 < l.sp.length := by cases q : l.sp with | nil => exact absurd q c2 | cons _ _ => simp
      simp [c1, c1i, c2, c3, q3]
theorem per_loop (w : Nat) (R : D) (hw : 0 < w) (hw2 : w ≤ 2000) : ∀ (u : List Lay) (m : Nat), (∀ l ∈ u, l.Ok) → 0 < m → m * 20000000 ^ u.length < 100000000000000000000000000000000000000000000000 → forF (tupG 4 (gsC (setD 3) (gsC (setD 4) (gsC (setD 5) (gsC (setD 6) gsN))))) period_w1 (u.map encL) (eP w R m none none none none) = .ok (.nx (eP w R (perR w u m) none none none none))
  | [], _, _, _, _ => rfl
  | l :: u, m, h, hm, hb => by
    have hl := h l List.mem_cons_self
    have p1 : 1 ≤ 20000000 ^ u.length := Nat.one_le_pow _ _ (by omega)
    rw [List.length_cons, Nat.pow_succ] at hb
    have bd := perN_bd (m := m) hl hw2
    have e1 : m * 20000000 * 1 ≤ m * 20000000 * 20000000 ^ u.length := Nat.mul_le_mul_left _ p1
    have e2 : m * (20000000 ^ u.length * 20000000) = m * 20000000 * 20000000 ^ u.length := by rw [Nat.mul_assoc, Nat.mul_comm (20000000 ^ u.length)]
    rw [e2] at hb
    have s := per_w1 w R m l hl hw hw2 hm (by omega)
    rw [List.map_cons, forF, at_lay]
    simp only [s]
    have ih := per_loop w R hw hw2 u (perN w m l) (fun k hk => h k (List.mem_cons_of_mem _ hk)) (perN_pos hl hw hm) (Nat.lt_of_le_of_lt (Nat.mul_le_mul_right _ bd) hb)
    exact ih
theorem lper_loop (w : Nat) (R : D) (hw : 0 < w) (hw2 : w ≤ 2000) : ∀ (u : List Lay) (m : Nat), (∀ l ∈ u, l.Ok) → 0 < m → forF (tupG 4 (gsC (setD 3) (gsC (setD 4) (gsC (setD 5) (gsC (setD 6) gsN))))) law_period_w1 (u.map encL) (eP w R m none none none none) = .ok (.nx (eP w R (perR w u m) none none none none))
  | [], _, _, _ => rfl
  | l :: u, m, h, hm => by
    have hl := h l List.mem_cons_self
    have s := lper_w1 w R m l hl hw hw2 hm
    rw [List.map_cons, forF, at_lay]
    simp only [s]
    exact lper_loop w R hw hw2 u (perN w m l) (fun k hk => h k (List.mem_cons_of_mem _ hk)) (perN_pos hl hw hm)
theorem period_ok (w : Nat) (r : Rot) (h : r.Ok) (hw : 0 < w) (hw2 : w ≤ 2000) : period_f [.int w, encR r] = .ok (.d (.int ((perR w r.ls 1 : Nat) : Int))) := by
  have hp : 1 * 20000000 ^ r.ls.length ≤ 1 * 20000000 ^ 6 := Nat.mul_le_mul_left _ (Nat.pow_le_pow_right (by omega) h.ll)
  have l := per_loop w (encR r) hw hw2 r.ls 1 h.ls (by omega) (Nat.lt_of_le_of_lt hp (by decide))
  have hb : ∀ ρ, ρ = [some (.d (.int w)), some (.d (encR r)), none, none, none, none, none] → period_b ρ = .ok (.rt (.d (.int ((perR w r.ls 1 : Nat) : Int)))) := by
    rintro _ rfl
    unfold period_b
    exact seq_nx (asg_nx (r := .d (.int 1)) rfl rfl) (seq_nx (forS_tup (by simp only [bin_ap, peek_ap, kon_ap, ok_bind, List.set_cons_succ, List.set_cons_zero, List.getElem?_cons_zero, List.getElem?_cons_succ, ixR1]) l) rfl)
  exact runB_rt (hb _ rfl) rfl
theorem lperiod_ok (w : Nat) (r : Rot) (h : r.Ok) (hw : 0 < w) (hw2 : w ≤ 2000) : law_period_f [.int w, encR r] = .ok (.d (.int ((perR w r.ls 1 : Nat) : Int))) := by
  have l := lper_loop w (encR r) hw hw2 r.ls 1 h.ls (by omega)
  have hb : ∀ ρ, ρ = [some (.d (.int w)), some (.d (encR r)), none, none, none, none, none] → law_period_b ρ = .ok (.rt (.d (.int ((perR w r.ls 1 : Nat) : Int)))) := by
    rintro _ rfl
    unfold law_period_b
    exact seq_nx (asg_nx (r := .d (.int 1)) rfl rfl) (seq_nx (forS_tup (by simp only [bin_ap, peek_ap, kon_ap, ok_bind, List.set_cons_succ, List.set_cons_zero, List.getElem?_cons_zero, List.getElem?_cons_succ, ixR1]) l) rfl)
  exact runB_rt (hb _ rfl) rfl
/-! ### it repeats -/
theorem perN_dvd (w m : Nat) (l : Lay) : m ∣ perN w m l ∧ (1 < l.mem.length → l.sh.toNat * l.mem.length ∣ perN w m l) ∧ (l.sp ≠ [] → w ∣ perN w m l) := by
  have a : ∀ m1, m1 ∣ (if l.sp = [] then m1 else Nat.lcm m1 w) := fun m1 => by split; exact Nat.dvd_refl _; exact Nat.dvd_lcm_left _ _
  refine ⟨?_, fun h => ?_, fun h => ?_⟩
  · refine Nat.dvd_trans ?_ (a _)
    split
    · exact Nat.dvd_lcm_left _ _
    · exact Nat.dvd_refl _
  · refine Nat.dvd_trans ?_ (a _)
    rw [if_pos h]; exact Nat.dvd_lcm_right _ _
  · unfold perN
    show w ∣ (if l.sp = [] then _ else Nat.lcm _ w)
    rw [if_neg h]; exact Nat.dvd_lcm_right _ _
theorem perR_dvd (w : Nat) : ∀ (ls : List Lay) (m : Nat), m ∣ perR w ls m ∧ ∀ l ∈ ls, (1 < l.mem.length → l.sh.toNat * l.mem.length ∣ perR w ls m) ∧ (l.sp ≠ [] → w ∣ perR w ls m)
  | [], m => ⟨Nat.dvd_refl _, fun _ h => nomatch h⟩
  | k :: ls, m => by
    obtain ⟨h1, h2⟩ := perR_dvd w ls (perN w m k)
    obtain ⟨p1, p2, p3⟩ := perN_dvd w m k
    refine ⟨Nat.dvd_trans p1 h1, fun l hl => ?_⟩
    rcases List.mem_cons.mp hl with rfl | hl
    · exact ⟨fun h => Nat.dvd_trans (p2 h) h1, fun h => Nat.dvd_trans (p3 h) h1⟩
    · exact h2 l hl
theorem whoL_rep (w M : Nat) (t : Int) (l : Lay) (h : l.Ok) (ht : l.st ≤ t) (h1 : 1 < l.mem.length → l.sh.toNat * l.mem.length ∣ M) (h2 : l.sp ≠ [] → w ∣ M) : whoL w (t + (M : Int)) l = whoL w t l := by
  unfold whoL
  rw [if_neg (show ¬ t + (M : Int) < l.st by omega), if_neg (show ¬ t < l.st by omega)]
  have e1 : l.sp ≠ [] → insB w (t + M) l.sp = insB w t l.sp := fun hs => by
    obtain ⟨q, hq⟩ := h2 hs
    unfold insB
    have : (t + (M : Int)) % (w : Int) = t % (w : Int) := by rw [hq, Int.natCast_mul, Int.add_mul_emod_self_left]
    rw [this]
  have e2 : (t + (M : Int) - l.st) / l.sh % l.mem.length = (t - l.st) / l.sh % l.mem.length := by
    have hsh := h.sh
    by_cases c : 1 < l.mem.length
    · obtain ⟨q, hq⟩ := h1 c
      have hM : (M : Int) = l.sh * ((l.mem.length : Int) * q) := by
        rw [hq, Int.natCast_mul, Int.natCast_mul, show ((l.sh.toNat : Nat) : Int) = l.sh by omega, Int.mul_assoc]
      rw [show t + (M : Int) - l.st = (t - l.st) + l.sh * ((l.mem.length : Int) * q) by omega, Int.add_mul_ediv_left _ _ (by omega), Int.add_mul_emod_self_left]
    · have : l.mem.length = 1 := by have := h.mem; omega
      rw [this]
      simp [Int.emod_one]
  rw [e2]
  by_cases hs : l.sp = []
  · simp [hs]
  · rw [e1 hs]
theorem sub_none {r : Rot} {t : Int} (ht : setR r ≤ t) : r.ss.reverse.findSome? (subF t) = none := by
  rw [List.findSome?_eq_none_iff]
  intro p hp
  have := setR_ss (List.mem_reverse.mp hp)
  unfold subF
  rw [if_neg (by omega)]
theorem findSome_same {α β : Type} {f g : α → Option β} : ∀ (xs : List α), (∀ x ∈ xs, f x = g x) → xs.findSome? f = xs.findSome? g
  | [], _ => rfl
  | x :: xs, h => by
    rw [List.findSome?_cons, List.findSome?_cons, h x List.mem_cons_self, findSome_same xs fun y hy => h y (List.mem_cons_of_mem _ hy)]
theorem whoR_rep (w M : Nat) (t : Int) (r : Rot) (h : r.Ok) (ht : setR r ≤ t) (hd : perR w r.ls 1 ∣ M) : whoR w (t + (M : Int)) r = whoR w t r := by
  unfold whoR
  rw [sub_none ht, sub_none (by omega)]
  congr 1
  refine findSome_same _ fun l hl => ?_
  have hl := List.mem_reverse.mp hl
  have := setR_ls hl
  obtain ⟨a, b⟩ := (perR_dvd w r.ls 1).2 l hl
  exact whoL_rep w M t l (h.ls l hl) (by omega) (fun c => Nat.dvd_trans (a c) hd) fun c => Nat.dvd_trans (b c) hd
/-! ### the world; a schedule at the edge of what is allowed -/
theorem world_ok (ns : List Int) : ∃ (days : Int) (e : Bool) (crew : List Str), law_world_f [.list (ns.map PyData.int)] = .ok (.ol [.int days, .list (crew.map PyData.str), .bool e]) ∧ 1 ≤ days ∧ days ≤ 2000 ∧ 0 < crew.length ∧ crew.length ≤ 4 ∧ ∀ c ∈ crew, c.length ≤ 8 := by
  obtain ⟨c, hce⟩ := cell2_ok ns 0 (by omega)
  obtain ⟨c1, hc1⟩ := cell2_ok ns 1 (by omega)
  obtain ⟨dr, d1, d2, _⟩ := draws_ok c 5 (by omega) (by omega)
  rw [draws_eq.symm] at d1
  have hn : dr.length = 5 := by simpa using d2
  obtain ⟨a0, _, h0⟩ := atI_ints dr 0 (by omega) (by omega)
  obtain ⟨a1, _, h1⟩ := atI_ints dr 1 (by omega) (by omega)
  obtain ⟨a2, _, h2⟩ := atI_ints dr 2 (by omega) (by omega)
  obtain ⟨a3, _, h3⟩ := atI_ints dr 3 (by omega) (by omega)
  obtain ⟨a4, _, h4⟩ := atI_ints dr 4 (by omega) (by omega)
  obtain ⟨crew, w1, w2, w3⟩ := words_ok c1 (1 + a3 % 4) (by omega) (by omega)
  have hm := imodN a1 5 (by omega)
  obtain ⟨v, hv, h5⟩ := atI_ints [2000, 1999, 1000, 7, 1 + (a2 * 1000 + a4) % 2000] (a1 % 5) hm.1 (by simpa using hm.2)
  have hv2 : 1 ≤ v ∧ v ≤ 2000 := by simp at hv; omega
  simp only [List.map_cons, List.map_nil] at h5
  have k : ∀ (days : Int), asgS 4 (callF 2 law_words_f (conA (callF 2 law_cell_f (conA (getV 0) (conA (kon (.int 1)) nilA))) (conA (bin addS (kon (.int 1)) (bin modS (callB intS (conB (bin ixS (peek 1) (kon (.int 3))) nilB)) (kon (.int 4)))) nilA))) [some (.d (.list (ns.map PyData.int))), some (.ol (dr.map PyData.int)), some (.d (.bool (decide (a0 % 10 = 7)))), some (.d (.int days)), none] = .ok (.nx [some (.d (.list (ns.map PyData.int))), some (.ol (dr.map PyData.int)), some (.d (.bool (decide (a0 % 10 = 7)))), some (.d (.int days)), some (.ol (crew.map PyData.str))]) := fun days => by
    simp [hc1, h3, w1]
  have hb : ∃ days : Int, 1 ≤ days ∧ days ≤ 2000 ∧ ∀ ρ, ρ = [some (.d (.list (ns.map PyData.int))), none, none, none, none] → law_world_b ρ = .ok (.rt (.ol [.int days, .list (crew.map PyData.str), .bool (decide (a0 % 10 = 7))])) := by
    by_cases z : a0 % 10 = 7
    · refine ⟨v, by omega, by omega, ?_⟩
      rintro _ rfl
      unfold law_world_b
      refine seq_nx (asg_nx (r := .ol (dr.map PyData.int)) (by simp [hce, d1]) rfl) ?_
      refine seq_nx (asg_nx (r := .d (.bool (decide (a0 % 10 = 7)))) (by simp [h0]) rfl) ?_
      refine seq_nx (asg_nx (r := .d (.int (1 + a1 % 12))) (by simp [h1]) rfl) ?_
      refine seq_nx (ρ1 := [some (.d (.list (ns.map PyData.int))), some (.ol (dr.map PyData.int)), some (.d (.bool (decide (a0 % 10 = 7)))), some (.d (.int v)), none]) (by simp [h1, h2, h4, h5, z]) ?_
      refine seq_nx (k v) ?_
      simp
    · refine ⟨1 + a1 % 12, by omega, by omega, ?_⟩
      rintro _ rfl
      unfold law_world_b
      refine seq_nx (asg_nx (r := .ol (dr.map PyData.int)) (by simp [hce, d1]) rfl) ?_
      refine seq_nx (asg_nx (r := .d (.bool (decide (a0 % 10 = 7)))) (by simp [h0]) rfl) ?_
      refine seq_nx (asg_nx (r := .d (.int (1 + a1 % 12))) (by simp [h1]) rfl) ?_
      refine seq_nx (ρ1 := [some (.d (.list (ns.map PyData.int))), some (.ol (dr.map PyData.int)), some (.d (.bool (decide (a0 % 10 = 7)))), some (.d (.int (1 + a1 % 12))), none]) (by simp [z]) ?_
      refine seq_nx (k _) ?_
      simp
  obtain ⟨days, b1, b2, hb⟩ := hb
  exact ⟨days, decide (a0 % 10 = 7), crew, runB_rt (hb _ rfl) rfl, b1, b2, by omega, by omega, w3⟩
abbrev eE (sc : SV) (at_ : Int) (nm : Str) (crew : List Str) (days : Int) (ns : List Int) (ls : List Lay) : En := [some sc, some (.d (.int at_)), some (.d (.str nm)), some (.d (.list (crew.map PyData.str))), some (.d (.int days)), some (.ol (ns.map PyData.int)), some (.ol (ls.map encL)), none, none, none, none, none, none, none]
theorem edge_mem (sc : SV) (at_ : Int) (nm : Str) (crew : List Str) (days : Int) (ns ps : List Int) (ls : List Lay) (k many sh : Int) (hn : ps.length = 14) (h0 : 0 ≤ many) (hk : many ≤ 10) (hc : 0 < crew.length) :
    ∃ ms : List Str, lcF (setD 13) yesT (bin ixS (peek 3) (bin modS (callB intS (conB (bin ixS (peek 8) (bin addS (kon (.int 4)) (peek 13))) nilB)) (callB lenS (conB (peek 3) nilB))))
      [some sc, some (.d (.int at_)), some (.d (.str nm)), some (.d (.list (crew.map PyData.str))), some (.d (.int days)), some (.ol (ns.map PyData.int)), some (.ol (ls.map encL)), some (.d (.int k)), some (.ol (ps.map PyData.int)), some (.d (.int many)), some (.d (.int sh)), none, none, none] (rng 0 many) = .ok (ms.map PyData.str) ∧ ms.length = many.toNat ∧ ∀ m ∈ ms, m ∈ crew := by
  obtain ⟨ms, h1, h2, h3⟩ := lcF_ex PyData.str (fun m => m ∈ crew) (k := setD 13) (e := bin ixS (peek 3) (bin modS (callB intS (conB (bin ixS (peek 8) (bin addS (kon (.int 4)) (peek 13))) nilB)) (callB lenS (conB (peek 3) nilB))))
    (ρ0 := [some sc, some (.d (.int at_)), some (.d (.str nm)), some (.d (.list (crew.map PyData.str))), some (.d (.int days)), some (.ol (ns.map PyData.int)), some (.ol (ls.map encL)), some (.d (.int k)), some (.ol (ps.map PyData.int)), some (.d (.int many)), some (.d (.int sh)), none, none, none]) (rng 0 many) (by
      intro x hx
      obtain ⟨i, rfl, hi⟩ := rng_mem hx
      obtain ⟨a, _, ha⟩ := atI_ints ps (4 + i) (by omega) (by omega)
      have hc' : (0 : Int) < crew.length := by omega
      have hm := imodN a crew.length hc'
      obtain ⟨m, hm1, hm2⟩ := atI_map PyData.str crew (a % crew.length) hm.1 hm.2
      exact ⟨_, .d (.str m), m, rfl, by simp [ha, hc, hc', hm2], rfl, hm1⟩)
  exact ⟨ms, h1, by rw [h2, rng_len]; congr 1; omega, h3⟩
theorem edge_w1_ok (sc : SV) (at_ : Int) (nm : Str) (crew : List Str) (days : Int) (ns : List Int) (ls : List Lay) (k : Nat) (hn : ns.length = 32) (hk : k < 2) (hl : ls.length < 10) (hd : 0 < days) (hc : 0 < crew.length) :
    ∃ l : Lay, l.Ok ∧ (∀ m ∈ l.mem, m ∈ crew) ∧ (∀ p ∈ l.sp, SpOk days p) ∧ l.st ≤ 100 ∧ law_edge_w1 [some sc, some (.d (.int at_)), some (.d (.str nm)), some (.d (.list (crew.map PyData.str))), some (.d (.int days)), some (.ol (ns.map PyData.int)), some (.ol (ls.map encL)), some (.d (.int k)), none, none, none, none, none, none] = .ok (.nx (eE sc at_ nm crew days ns (ls ++ [l]))) := by
  have hz := line16
  obtain ⟨ps, hp⟩ : ∃ ps : List Int, ps = (ns.drop (1 + 14 * k)).take 14 := ⟨_, rfl⟩
  have hpl : ps.length = 14 := by rw [hp, List.length_take, List.length_drop]; omega
  have cut : Pl.cutD (ns.map PyData.int) (some (1 + 14 * (k : Int))) (some (15 + 14 * (k : Int))) = ps.map PyData.int := by
    have e := cutD_mid (ns.map PyData.int) (1 + 14 * k) (15 + 14 * k)
    rw [show ((1 + 14 * k : Nat) : Int) = 1 + 14 * (k : Int) by omega, show ((15 + 14 * k : Nat) : Int) = 15 + 14 * (k : Int) by omega, show 15 + 14 * k - (1 + 14 * k) = 14 by omega] at e
    rw [e, hp, List.map_take, List.map_drop]
  obtain ⟨a0, _, h0⟩ := atI_ints ps 0 (by omega) (by omega)
  obtain ⟨a1, _, h1⟩ := atI_ints ps 1 (by omega) (by omega)
  obtain ⟨a2, _, h2⟩ := atI_ints ps 2 (by omega) (by omega)
  obtain ⟨a3, _, h3⟩ := atI_ints ps 3 (by omega) (by omega)
  obtain ⟨s, _, hs⟩ := atI_ints ns (29 + k) (by omega) (by omega)
  obtain ⟨many, hmany⟩ : ∃ many : Int, many = 1 + a0 % 10 := ⟨_, rfl⟩
  have m0 : 0 < many := by omega
  have m1 : many ≤ 10 := by omega
  have hm2 := imodN a2 days hd
  have dv0 : 0 ≤ 2000 / many := Int.ediv_nonneg (by omega) (by omega)
  obtain ⟨sh0, hsh0⟩ : ∃ sh : Int, sh = imin 1000 (imax 1 (2000 / many + a1 % 3 - 1)) := ⟨_, rfl⟩
  have sh0b : 1 ≤ sh0 ∧ sh0 ≤ 1000 := by rw [hsh0]; unfold imin imax; split <;> split <;> omega
  obtain ⟨sh, hsh⟩ : ∃ sh : Int, sh = if a2 % 3 = 0 then 1 + a1 % 1000 else sh0 := ⟨_, rfl⟩
  have shb : 1 ≤ sh ∧ sh ≤ 1000 := by rw [hsh]; split <;> omega
  obtain ⟨ms, q1, q2, q3⟩ := edge_mem sc at_ nm crew days ns ps ls k many sh hpl (by omega) m1 hc
  obtain ⟨sp, hsp⟩ : ∃ sp : List (Int × Int), sp = if a3 % 3 = 0 then [(a2 % days, days)] else [] := ⟨_, rfl⟩
  have spb : sp.length ≤ 6 ∧ ∀ p ∈ sp, SpOk days p := by
    rw [hsp]; split
    · exact ⟨by simp, fun p hp => by rw [List.mem_singleton.mp hp]; exact ⟨hm2.1, hm2.2, by show days ≤ days; omega⟩⟩
    · exact ⟨by simp, fun p hp => nomatch hp⟩
  refine ⟨⟨ms, s % 61, sh, sp⟩, ⟨by show 0 < ms.length; omega, by show ms.length ≤ 10; omega, by show 0 ≤ s % 61; omega, by show s % 61 ≤ 5000; omega, by show 0 < sh; omega, shb.2, spb.1⟩, q3, spb.2, by show s % 61 ≤ 100; omega, ?_⟩
  have hR : okR many = true := okR_of (by omega) (by omega)
  have hml : many.toNat < sizeLine := by omega
  have hll : ls.length < sizeLine := by omega
  have hcl : many < 1073741824 := by omega
  have hz0 : ¬ sizeLine = 0 := by omega
  have st : ∀ ρ, ρ = [some sc, some (.d (.int at_)), some (.d (.str nm)), some (.d (.list (crew.map PyData.str))), some (.d (.int days)), some (.ol (ns.map PyData.int)), some (.ol (ls.map encL)), some (.d (.int k)), none, none, none, none, none, none] → law_edge_w1 ρ = .ok (.nx (eE sc at_ nm crew days ns (ls ++ [⟨ms, s % 61, sh, sp⟩]))) := by
    rintro _ rfl
    unfold law_edge_w1
    refine kill_nx (ρ1 := [some sc, some (.d (.int at_)), some (.d (.str nm)), some (.d (.list (crew.map PyData.str))), some (.d (.int days)), some (.ol (ns.map PyData.int)), some (.ol ((ls ++ [(⟨ms, s % 61, sh, sp⟩ : Lay)]).map encL)), some (.d (.int k)), some (.ol (ps.map PyData.int)), some (.d (.int many)), some (.d (.int sh)), some (.ol (ms.map PyData.str)), some (.ol (sp.map encS)), none]) ?_ rfl
    refine seq_nx (asg_nx (r := .ol (ps.map PyData.int)) (by simp [cut]) rfl) ?_
    refine seq_nx (asg_nx (r := .d (.int many)) (by simp [h0, hmany]) rfl) ?_
    refine seq_nx (asg_nx (r := .d (.int sh0)) (by simp [h1, m0, hcl, hsh0]) rfl) ?_
    refine seq_nx (ρ1 := [some sc, some (.d (.int at_)), some (.d (.str nm)), some (.d (.list (crew.map PyData.str))), some (.d (.int days)), some (.ol (ns.map PyData.int)), some (.ol (ls.map encL)), some (.d (.int k)), some (.ol (ps.map PyData.int)), some (.d (.int many)), some (.d (.int sh)), none, none, none]) (by
      by_cases z : a2 % 3 = 0
      · simp [h1, h2, z, hsh]
      · simp [h2, z, hsh]) ?_
    refine seq_nx (asg_nx (r := .ol (ms.map PyData.str)) (by simp [hR, hml, q1]) rfl) ?_
    refine seq_nx (asg_nx (r := .ol []) rfl rfl) ?_
    refine seq_nx (ρ1 := [some sc, some (.d (.int at_)), some (.d (.str nm)), some (.d (.list (crew.map PyData.str))), some (.d (.int days)), some (.ol (ns.map PyData.int)), some (.ol (ls.map encL)), some (.d (.int k)), some (.ol (ps.map PyData.int)), some (.d (.int many)), some (.d (.int sh)), some (.ol (ms.map PyData.str)), some (.ol (sp.map encS)), none]) (by
      by_cases z : a3 % 3 = 0
      · simp [h3, h2, z, hsp, hd, encS, hz0]
      · simp [h3, z, hsp]) ?_
    simp [hs, hll, encL]
  exact st _ rfl
theorem edge_ok (sc : List Int) (at_ days : Int) (nm : Str) (crew : List Str) (ha : 0 ≤ at_) (hd : 0 < days) (hc : 0 < crew.length) :
    ∃ r : Rot, law_edge_f [.list (sc.map PyData.int), .int at_, .str nm, .list (crew.map PyData.str), .int days] = .ok (.d (encR r)) ∧ r.Ok ∧ r.nm = nm ∧ (∀ p ∈ r.ss, SubOk p) ∧ (∀ l ∈ r.ls, (∀ m ∈ l.mem, m ∈ crew) ∧ ∀ p ∈ l.sp, SpOk days p) ∧ r.ls.length ≤ 3 ∧ r.ss.length ≤ 3 ∧ ∀ l ∈ r.ls, l.st ≤ 100 := by
  have hz := line16
  obtain ⟨c, hce⟩ := cell2_ok sc at_ ha
  obtain ⟨ns, d1, d2, hsm⟩ := draws_ok c 32 (by omega) (by omega)
  have hn : ns.length = 32 := by simpa using d2
  rw [draws_eq.symm] at d1
  obtain ⟨a0, _, h0⟩ := atI_ints ns 0 (by omega) (by omega)
  obtain ⟨so, hso⟩ : ∃ so : Int, so = 1 + (if decide (a0 % 4 = 0) = true then 1 else 0) := ⟨_, rfl⟩
  have sob : 0 ≤ so ∧ so ≤ 2 := by rw [hso]; split <;> omega
  obtain ⟨ρ', e1, ls, e2, e3, e4⟩ := forF_inv (k := setD 7) (b := law_edge_w1) (fun i ρ => ∃ ls : List Lay, ρ = eE (.d (.list (sc.map PyData.int))) at_ nm crew days ns ls ∧ ls.length = i ∧ ∀ l ∈ ls, l.Ok ∧ (∀ m ∈ l.mem, m ∈ crew) ∧ (∀ p ∈ l.sp, SpOk days p) ∧ l.st ≤ 100) (rng 0 so) _ ⟨[], rfl, rfl, fun _ h => nomatch h⟩ (by
    rintro i x _ hx ⟨ls, rfl, hl, hls⟩
    obtain ⟨rfl, hi⟩ := rng_at hx
    obtain ⟨l, l1, l2, l3, l5, l4⟩ := edge_w1_ok (.d (.list (sc.map PyData.int))) at_ nm crew days ns ls i hn (by omega) (by omega) hd hc
    refine ⟨_, _, rfl, .inl (by rw [show (0 : Int) + (i : Nat) = (i : Nat) by omega]; exact l4), ls ++ [l], rfl, by simp [hl], fun q hq => ?_⟩
    rcases List.mem_append.mp hq with z | z
    · exact hls q z
    · rw [List.mem_singleton.mp z]; exact ⟨l1, l2, l3, l5⟩)
  subst e2
  rw [rng_len] at e3
  refine ⟨⟨nm, ls, []⟩, ?_, ⟨fun l hl => (e4 l hl).1, by show ls.length ≤ 6; omega, by simp⟩, rfl, (fun _ h => nomatch h), fun l hl => ⟨(e4 l hl).2.1, (e4 l hl).2.2.1⟩, by show ls.length ≤ 3; omega, by simp, fun l hl => (e4 l hl).2.2.2⟩
  have hR : okR so = true := okR_of (by omega) (by omega)
  have hb : ∀ ρ, ρ = [some (.d (.list (sc.map PyData.int))), some (.d (.int at_)), some (.d (.str nm)), some (.d (.list (crew.map PyData.str))), some (.d (.int days)), none, none, none, none, none, none, none, none, none] → law_edge_b ρ = .ok (.rt (.d (encR ⟨nm, ls, []⟩))) := by
    rintro _ rfl
    unfold law_edge_b
    refine seq_nx (asg_nx (r := .ol (ns.map PyData.int)) (by simp [hce, d1]) rfl) (seq_nx (asg_nx (r := .ol []) rfl rfl) (seq_nx (forS_rng1 (j := so) (by simp [h0, hso]) hR e1) ?_))
    simp [encR]
  exact runB_rt (hb _ rfl) rfl
theorem any_ok (sc : List Int) (at_ days : Int) (nm : Str) (crew : List Str) (e : Bool) (ha : 0 ≤ at_) (hd : 0 < days) (hc : 0 < crew.length) :
    ∃ r : Rot, law_any_f [.list (sc.map PyData.int), .int at_, .str nm, .list (crew.map PyData.str), .int days, .bool e] = .ok (.d (encR r)) ∧ r.Ok ∧ r.nm = nm ∧ (∀ p ∈ r.ss, SubOk p) ∧ (∀ l ∈ r.ls, (∀ m ∈ l.mem, m ∈ crew) ∧ ∀ p ∈ l.sp, SpOk days p) ∧ r.ls.length ≤ 3 ∧ r.ss.length ≤ 3 ∧ ∀ l ∈ r.ls, l.st ≤ 100 := by
  cases e with
  | true =>
    obtain ⟨r, h1, h2⟩ := edge_ok sc at_ days nm crew ha hd hc
    refine ⟨r, ?_, h2⟩
    unfold law_any_f runB law_any_b startE
    simp [h1]
  | false =>
    obtain ⟨r, h1, h2, h3, h4, h5, h6⟩ := rota_ok sc at_ days 0 nm crew ha hd (.inl rfl) hc
    refine ⟨r, ?_, h2, h3, h4, h5, h6 (by omega)⟩
    unfold law_any_f runB law_any_b startE
    simp [h1]
/-! ### who is first on call when: by rows and by ticks -/
abbrev FstT := List (Str × Int)
def fstS (F : FstT) (x : Int) (o : Option Str) : FstT := match o with
  | none => F
  | some p => if p ∈ F.map (·.1) then F else F ++ [(p, x)]
theorem fstS_again (F : FstT) (x y : Int) (o : Option Str) : fstS (fstS F x o) y o = fstS F x o := by
  cases o with
  | none => rfl
  | some p =>
    unfold fstS
    by_cases c : p ∈ F.map (·.1)
    · simp only [c, if_true]
    · simp only [c, if_false]
      rw [if_pos (by simp)]
def rowsF (R : List Row) : FstT := R.foldl (fun F p => fstS F p.1 p.2.2) []
theorem push_F (R : List Row) (x : Int) (o : Option Str) : rowsF (push R x (x + 1) o) = fstS (rowsF R) x o := by
  rcases snoc_cases R with rfl | ⟨S, k, rfl⟩
  · rfl
  · rw [push_snoc]
    split
    · rename_i h
      unfold rowsF
      rw [List.foldl_append, List.foldl_append]
      simp only [List.foldl_cons, List.foldl_nil]
      rw [h, fstS_again]
    · unfold rowsF
      rw [List.foldl_append, List.foldl_append]
      rfl
def ticksF (w : Int) (r : Rot) (t b : Int) : FstT := (irng t b).foldl (fun F x => fstS F x (whoR w x r)) []
theorem rows_ticks (w : Int) (r : Rot) (t : Int) : ∀ n : Nat, rowsF (runsT w r [] t (t + n)) = ticksF w r t (t + n)
  | 0 => by
    unfold ticksF runsT
    rw [irng_nil (by omega)]; rfl
  | n + 1 => by
    have ih := rows_ticks w r t n
    rw [show t + ((n + 1 : Nat) : Int) = t + n + 1 by omega]
    unfold ticksF runsT at ih ⊢
    rw [irng_snoc (by omega), List.foldl_append, List.foldl_append, ← ih]
    exact push_F _ _ _
theorem fstS_len (F : FstT) (x : Int) (o : Option Str) : (fstS F x o).length ≤ F.length + 1 := by
  cases o with
  | none => exact Nat.le_succ _
  | some p => unfold fstS; dsimp only; split <;> simp
theorem fstS_nd {F : FstT} (x : Int) (o : Option Str) (h : (F.map (·.1)).Nodup) : ((fstS F x o).map (·.1)).Nodup := by
  cases o with
  | none => exact h
  | some p =>
    unfold fstS
    by_cases c : p ∈ F.map (·.1)
    · simp only [c, if_true]; exact h
    · simp only [c, if_false]
      rw [List.map_append, List.nodup_append]
      refine ⟨h, by simp, fun a ha b hb z => ?_⟩
      simp at hb
      exact c (by rw [← hb, ← z]; exact ha)
theorem rowsF_nd (R : List Row) : ((rowsF R).map (·.1)).Nodup := by
  have : ∀ (R : List Row) (F : FstT), (F.map (·.1)).Nodup → ((R.foldl (fun F p => fstS F p.1 p.2.2) F).map (·.1)).Nodup := by
    intro R
    induction R with
    | nil => intro F h; exact h
    | cons p R ih => intro F h; exact ih _ (fstS_nd _ _ h)
  exact this R [] (by simp)
def encFs (q : Str × Int) : D := .tuple [.str q.1, .int q.2]

theorem setR_le {r : Rot} (h : r.Ok) (hs : ∀ p ∈ r.ss, SubOk p) : setR r ≤ 10000 := by
  have k : ∀ (u : List Int) (m : Int), m ≤ 10000 → (∀ x ∈ u, x ≤ 10000) → u.foldl imax m ≤ 10000 := by
    intro u
    induction u with
    | nil => intro m hm _; exact hm
    | cons x u ih =>
      intro m hm hx
      rw [List.foldl_cons]
      refine ih _ ?_ fun y hy => hx y (List.mem_cons_of_mem _ hy)
      have := hx x List.mem_cons_self
      unfold imax; split <;> omega
  refine k _ _ (k _ _ (by omega) fun x hx => ?_) fun x hx => ?_
  · obtain ⟨l, hl, rfl⟩ := List.mem_map.mp hx
    have := (h.ls l hl).st2; omega
  · obtain ⟨p, hp, rfl⟩ := List.mem_map.mp hx
    exact (hs p hp).2.2
theorem bounded_ok (M : Nat) (h : M ≤ 2000) : bounded_f [.int M] = .ok (.d (.int M)) := by
  unfold bounded_f runB bounded_b startE
  have : ¬ (2000 : Int) < (M : Int) := by omega
  simp [this, h]
theorem bounded_ex (M : Nat) (h : 2000 < M) : bounded_f [.int M] = .ex 0 [] := by
  unfold bounded_f runB bounded_b startE
  have : (2000 : Int) < (M : Int) := by omega
  simp [this, h]

abbrev eV (w : Nat) (r : Rot) (t : Int) (M : Nat) (b : Int) (F : FstT) : En := [some (.d (.int w)), some (.d (encR r)), some (.d (.int t)), some (.d (.int M)), some (.d (.int b)), some (.od (encK PyData.int F)), none, none, none]
theorem ever_w1 (w : Nat) (r : Rot) (t : Int) (M : Nat) (b : Int) (F : FstT) (p : Row) (hF : F.length < 100000) : ∃ ρ1, tupG 3 (gsC (setD 6) (gsC (setD 7) (gsC (setD 8) gsN))) (encW p) (eV w r t M b F) = .ok ρ1 ∧ ever_on_call_w1 ρ1 = .ok (.nx (eV w r t M b (fstS F p.1 p.2.2))) := by
  have hz := line16
  obtain ⟨f, l, o⟩ := p
  refine ⟨[some (.d (.int w)), some (.d (encR r)), some (.d (.int t)), some (.d (.int M)), some (.d (.int b)), some (.od (encK PyData.int F)), some (.d (.int f)), some (.d (.int l)), some (.d (encO o))], rfl, ?_⟩
  unfold ever_on_call_w1
  cases o with
  | none => simp [encO, fstS]
  | some y =>
    have e : (valD (encK PyData.int F) (.inr y)).isSome = decide (y ∈ F.map (·.1)) := by rw [valD_enc, Option.isSome_map, valF_some]
    have hl : (encK PyData.int F).length < sizeLine := by unfold encK; rw [List.length_map]; omega
    unfold fstS
    by_cases c : y ∈ F.map (·.1)
    · rw [decide_eq_true c] at e
      obtain ⟨d, e0⟩ := Option.isSome_iff_exists.mp e
      simp only [c, if_true]
      simp [encO, e0]
    · rw [decide_eq_false c] at e
      have e0 : valD (encK PyData.int F) (.inr y) = none := by
        cases q : valD (encK PyData.int F) (.inr y) with
        | none => rfl
        | some d => rw [q] at e; cases e
      have pn := putD_new PyData.int (x := f) c
      simp only [c, if_false]
      simp [encO, e0, hl, pn]
theorem ever_loop (w : Nat) (r : Rot) (t : Int) (M : Nat) (b : Int) : ∀ (R : List Row) (F : FstT), F.length + R.length < 100000 → forF (tupG 3 (gsC (setD 6) (gsC (setD 7) (gsC (setD 8) gsN)))) ever_on_call_w1 (R.map encW) (eV w r t M b F) = .ok (.nx (eV w r t M b (R.foldl (fun F p => fstS F p.1 p.2.2) F)))
  | [], _, _ => rfl
  | p :: R, F, h => by
    obtain ⟨ρ1, a1, a2⟩ := ever_w1 w r t M b F p (by simp at h; omega)
    have hl := fstS_len F p.1 p.2.2
    rw [List.map_cons, forF, a1]
    simp only [ok_bind, a2]
    exact ever_loop w r t M b R _ (by simp at h; omega)
theorem lock_ok (w : Nat) (r : Rot) (t : Int) (M : Nat) (b : Int) (F : FstT) (nd : (F.map (·.1)).Nodup) (hF : F.length < 100000) : lockD 5 (lcE (keysD 5) (setD 8) yesT (dispT (conA (getV 8) (conA (dgetS 5 (peek 8)) nilA))) [8]) (eV w r t M b F) = .ok (.ol (F.map encFs)) := by
  have hz := line16
  have l := lcF_mapα (fun q : Str × Int => PyData.str q.1) (k := setD 8) (t := yesT) (e := dispT (conA (getV 8) (conA (dgetS 5 (peek 8)) nilA))) (ρ0 := [some (.d (.int w)), some (.d (encR r)), some (.d (.int t)), some (.d (.int M)), some (.d (.int b)), some (.pd (encK PyData.int F)), none, none, none]) (fun _ => true) encFs F fun q hq => ⟨_, rfl, rfl, fun _ => ⟨.d (encFs q), by simp [valD_enc, valF_at nd hq, encFs], rfl⟩⟩
  rw [List.filter_eq_self.mpr fun _ _ => rfl] at l
  have ek : (encK PyData.int F).map (fun kv => keyD kv.1) = F.map fun q => PyData.str q.1 := by unfold encK; rw [List.map_map]; rfl
  have hl : (F.map fun q : Str × Int => PyData.str q.1).length < sizeLine := by rw [List.length_map]; omega
  have e : lcE (keysD 5) (setD 8) yesT (dispT (conA (getV 8) (conA (dgetS 5 (peek 8)) nilA))) [8] [some (.d (.int w)), some (.d (encR r)), some (.d (.int t)), some (.d (.int M)), some (.d (.int b)), some (.pd (encK PyData.int F)), none, none, none] = .ok (.ol (F.map encFs)) := by
    rw [lcE_ap, keysD_ap]
    simp only [List.getElem?_cons_zero, List.getElem?_cons_succ, ok_bind, ek, if_pos hl, wipeE_cons, wipeE_nil, List.set_cons_zero, List.set_cons_succ, l]
  unfold lockD
  show (match lcE (keysD 5) (setD 8) yesT (dispT (conA (getV 8) (conA (dgetS 5 (peek 8)) nilA))) [8] [some (.d (.int w)), some (.d (encR r)), some (.d (.int t)), some (.d (.int M)), some (.d (.int b)), some (.pd (encK PyData.int F)), none, none, none] with
    | R.ok (SV.ol xs) => R.ok (SV.ol xs)
    | _ => (R.bad : R SV)) = _
  rw [e]
theorem first_ok (w : Nat) (r : Rot) (t : Int) (h : r.Ok) (hw : 0 < w) (hw2 : w ≤ 2000) (ht : 0 ≤ t) (hs : ∀ p ∈ r.ss, SubOk p) (hp : SpsOk w r) (hM : perR w r.ls 1 ≤ 2000) :
    ever_on_call_f [.int w, encR r, .int t] = .ok (.ol ((ticksF w r t (imax t (setR r) + (perR w r.ls 1 : Nat))).map encFs)) := by
  have p := period_ok w r h hw hw2
  have st := settled_ok r h
  have s0 := setR_nn r
  have s1 := setR_le h hs
  have im : t ≤ imax t (setR r) ∧ imax t (setR r) ≤ t + 10000 := by unfold imax; split <;> omega
  generalize hMM : perR w r.ls 1 = M at *
  have b := bounded_ok M hM
  obtain ⟨e, he⟩ : ∃ e, e = imax t (setR r) + (M : Int) := ⟨_, rfl⟩
  have sx := stretches_ok w t e r (by omega) h hp (by omega)
  have hl := runs_len w r t e
  have rt := rows_ticks w r t (e - t).toNat
  rw [show t + ((e - t).toNat : Int) = e by omega] at rt
  have lp := ever_loop w r t M e (runsT w r [] t e) [] (by simp; omega)
  have nd := rowsF_nd (runsT w r [] t e)
  have fl : (rowsF (runsT w r [] t e)).length ≤ (runsT w r [] t e).length := by
    have : ∀ (R : List Row) (F : FstT), (R.foldl (fun F p => fstS F p.1 p.2.2) F).length ≤ F.length + R.length := by
      intro R
      induction R with
      | nil => intro F; exact Nat.le_refl _
      | cons p R ih =>
        intro F
        have := ih (fstS F p.1 p.2.2)
        have := fstS_len F p.1 p.2.2
        rw [List.foldl_cons, List.length_cons]; omega
    have := this (runsT w r [] t e) []
    simpa [rowsF] using this
  have lk := lock_ok w r t M e (rowsF (runsT w r [] t e)) nd (by omega)
  rw [← he, ← rt]
  have hb : ∀ ρ, ρ = [some (.d (.int w)), some (.d (encR r)), some (.d (.int t)), none, none, none, none, none, none] → ever_on_call_b ρ = .ok (.rt (.ol ((rowsF (runsT w r [] t e)).map encFs))) := by
    rintro _ rfl
    unfold ever_on_call_b
    refine seq_nx (asg_nx (r := .d (.int M)) (by simp [p, b]) rfl) (seq_nx (asg_nx (r := .d (.int e)) (by simp [st, he]) rfl) (seq_nx (asg_nx (r := .od []) rfl rfl) (seq_nx (ρ1 := eV w r t M e (rowsF (runsT w r [] t e))) ?_ ?_)))
    · rw [frzS_ap]
      exact forS_ol (xs := (runsT w r [] t e).map encW) (by simp [sx]) lp
    · rw [retS_ap, lk]; rfl
  exact runB_rt (hb _ rfl) rfl
theorem first_ex (w : Nat) (r : Rot) (t : Int) (h : r.Ok) (hw : 0 < w) (hw2 : w ≤ 2000) (hM : 2000 < perR w r.ls 1) : ever_on_call_f [.int w, encR r, .int t] = .ex 0 [] := by
  have p := period_ok w r h hw hw2
  have b := bounded_ex _ hM
  unfold ever_on_call_f runB ever_on_call_b startE
  simp [p, b]
abbrev eT (w : Nat) (r : Rot) (t : Int) (F : FstT) : En := [some (.d (.int w)), some (.d (encR r)), some (.d (.int t)), some (.ol (F.map encFs)), some (.ol ((F.map (·.1)).map PyData.str)), none, none]
theorem firsts_w1 (w : Nat) (r : Rot) (t x : Int) (F : FstT) (hw : 0 < w) (h : r.Ok) (hF : F.length < 100000) : law_firsts_w1 [some (.d (.int w)), some (.d (encR r)), some (.d (.int t)), some (.ol (F.map encFs)), some (.ol ((F.map (·.1)).map PyData.str)), some (.d (.int x)), none] = .ok (.nx (eT w r t (fstS F x (whoR w x r)))) := by
  have hz := line16
  have o := on_ok w x r (by omega) h
  have hl1 : (F.map encFs).length < sizeLine := by rw [List.length_map]; omega
  have hl2 : ((F.map (·.1)).map PyData.str).length < sizeLine := by rw [List.length_map, List.length_map]; omega
  unfold law_firsts_w1 fstS
  generalize whoR w x r = z at *
  cases z with
  | none => simp [o, encO]
  | some y =>
    have e := inS_strsO true y (F.map (·.1))
    by_cases c : y ∈ F.map (·.1)
    · rw [decide_eq_true c] at e
      simp only [c, if_true]
      simp [o, encO, e, -List.map_map]
    · rw [decide_eq_false c] at e
      simp only [c, if_false]
      have a1 : (F ++ [(y, x)]).map encFs = F.map encFs ++ [.tuple [.str y, .int x]] := by rw [List.map_append]; rfl
      have a2 : ((F ++ [(y, x)]).map (·.1)).map PyData.str = (F.map (·.1)).map PyData.str ++ [.str y] := by rw [List.map_append, List.map_append]; rfl
      show _ = R.ok (Fl.nx [some (.d (.int w)), some (.d (encR r)), some (.d (.int t)), some (.ol ((F ++ [(y, x)]).map encFs)), some (.ol (((F ++ [(y, x)]).map (·.1)).map PyData.str)), none, none])
      rw [a1, a2]
      generalize (F.map (·.1)).map PyData.str = L at *
      generalize F.map encFs = L2 at *
      simp [o, encO, e, hl1, hl2]
theorem firsts_loop (w : Nat) (r : Rot) (t : Int) (hw : 0 < w) (h : r.Ok) : ∀ (us : List Int) (F : FstT), F.length + us.length < 100000 → forF (setD 5) law_firsts_w1 (us.map PyData.int) (eT w r t F) = .ok (.nx (eT w r t (us.foldl (fun F x => fstS F x (whoR w x r)) F))) ∧ (us.foldl (fun F x => fstS F x (whoR w x r)) F).length ≤ F.length + us.length
  | [], _, _ => ⟨rfl, Nat.le_refl _⟩
  | x :: us, F, hF => by
    have hl := fstS_len F x (whoR w x r)
    have a := firsts_w1 w r t x F hw h (by simp at hF; omega)
    obtain ⟨b1, b2⟩ := firsts_loop w r t hw h us (fstS F x (whoR w x r)) (by simp at hF; omega)
    refine ⟨?_, by rw [List.foldl_cons, List.length_cons]; omega⟩
    rw [List.map_cons, forF]
    simp only [setD_ap, List.set_cons_succ, List.set_cons_zero, a, ok_bind]
    exact b1
theorem lgap_ok (w : Nat) (r : Rot) (t : Int) (h : r.Ok) (hw : 0 < w) (hw2 : w ≤ 2000) (ht : 0 ≤ t) (ht2 : t ≤ 1000000000) (hs : ∀ p ∈ r.ss, SubOk p) (hM : perR w r.ls 1 ≤ 2000) :
    law_firsts_f [.int w, encR r, .int t] = .ok (.ol ((ticksF w r t (imax t (setR r) + (perR w r.ls 1 : Nat))).map encFs)) ∧ (ticksF w r t (imax t (setR r) + (perR w r.ls 1 : Nat))).length < 100000 := by
  have p := lperiod_ok w r h hw hw2
  have st := lsettled_ok r
  have s0 := setR_nn r
  have s1 := setR_le h hs
  generalize perR w r.ls 1 = M at *
  have im : t ≤ imax t (setR r) ∧ imax t (setR r) ≤ t + 10000 := by unfold imax; split <;> omega
  obtain ⟨e, he⟩ : ∃ e, e = imax t (setR r) + (M : Int) := ⟨_, rfl⟩
  rw [← he]
  obtain ⟨g, gl⟩ := firsts_loop w r t hw h (irng t e) [] (by rw [irng_len]; simp; omega)
  rw [← rng_irng] at g
  rw [irng_len] at gl
  refine ⟨?_, by unfold ticksF; simp at gl; omega⟩
  have hb : ∀ ρ, ρ = [some (.d (.int w)), some (.d (encR r)), some (.d (.int t)), none, none, none, none] → law_firsts_b ρ = .ok (.rt (.ol ((ticksF w r t e).map encFs))) := by
    rintro _ rfl
    unfold law_firsts_b
    exact seq_nx (asg_nx (r := .ol []) rfl rfl) (seq_nx (asg_nx (r := .ol []) rfl rfl) (seq_nx (forS_rng2 (i := t) (j := e) rfl (by simp [st, p, he]) (okR_of (by omega) (by omega)) (okR_of (by omega) (by omega)) g) rfl))
  exact runB_rt (hb _ rfl) rfl
theorem told_ok (w : Nat) (r : Rot) (t : Int) (L : List D) (c : ever_on_call_f [.int w, encR r, .int t] = .ok (.ol L)) : law_told_f [.int w, encR r, .int t] = .ok (.d (.tuple [.str "told", .list L])) := by
  have hb : ∀ ρ, ρ = [some (.d (.int w)), some (.d (encR r)), some (.d (.int t)), none] → law_told_b ρ = .ok (.rt (.d (.tuple [.str "told", .list L]))) := by
    rintro _ rfl
    unfold law_told_b
    rw [tryAs_ok (fl := .rt (.d (.tuple [.str "told", .list L]))) (by unfold law_told_b1; simp [c])]
    rfl
  exact runB_rt (hb _ rfl) rfl
theorem told_ex (w : Nat) (r : Rot) (t : Int) (c : ever_on_call_f [.int w, encR r, .int t] = .ex 0 []) : law_told_f [.int w, encR r, .int t] = .ok (.d (.tuple [.str "refused", .bool true, .bool false])) := by
  have hb : ∀ ρ, ρ = [some (.d (.int w)), some (.d (encR r)), some (.d (.int t)), none] → law_told_b ρ = .ok (.rt (.d (.tuple [.str "refused", .bool true, .bool false]))) := by
    rintro _ rfl
    unfold law_told_b
    rw [tryAs_ex (n := 0) (as := []) (by unfold law_told_b1; simp [c]) rfl]
    unfold law_told_h1
    simp
  exact runB_rt (hb _ rfl) rfl
theorem time_ok (c : Int) : ∃ t : Int, law_time_f [.int c] = .ok (.d (.int t)) ∧ 0 ≤ t ∧ t ≤ 1000000000 := by
  obtain ⟨ds, d1, d2, hsm⟩ := draws_ok c 4 (by omega) (by omega)
  rw [draws_eq.symm] at d1
  have hn : ds.length = 4 := by simpa using d2
  obtain ⟨a0, m0, h0⟩ := atI_ints ds 0 (by omega) (by omega)
  obtain ⟨a1, m1, h1⟩ := atI_ints ds 1 (by omega) (by omega)
  obtain ⟨a2, m2, h2⟩ := atI_ints ds 2 (by omega) (by omega)
  obtain ⟨a3, m3, h3⟩ := atI_ints ds 3 (by omega) (by omega)
  have g0 := hsm a0 m0; have g1 := hsm a1 m1; have g2 := hsm a2 m2
  have pw : powS (.d (.int 10)) (.d (.int 6)) = .ok (.d (.int 1000000)) := rfl
  unfold law_time_f runB law_time_b startE
  by_cases c1 : a3 % 4 = 0
  · exact ⟨a0 * 1000000 + a1 * 1000 + a2, by simp [d1, h0, h1, h2, h3, c1, pw], by omega, by omega⟩
  · exact ⟨a0 % 61, by simp [d1, h0, h3, c1], by omega, by omega⟩
theorem same_F (F : FstT) (h : F.length < 1000000) : law_same_f [.tuple [.str "told", .list (F.map encFs)], .tuple [.str "told", .list (F.map encFs)]] = .ok (.d (.bool true)) := by
  refine same_ok 8 _ ?_
  have hl : wfD 7 (.list (F.map encFs)) = true := by
    simp only [wfD, Bool.and_eq_true, decide_eq_true_eq, List.all_eq_true, List.length_map]
    refine ⟨h, fun x hx => ?_⟩
    obtain ⟨p, _, rfl⟩ := List.mem_map.mp hx
    rfl
  unfold wfD
  simp only [Bool.and_eq_true, decide_eq_true_eq, List.all_eq_true]
  refine ⟨by show 2 < 1000000; omega, fun x hx => ?_⟩
  rcases List.mem_cons.mp hx with rfl | hx
  · rfl
  · rw [List.mem_singleton.mp hx]; exact hl
theorem same_r : law_same_f [.tuple [.str "refused", .bool true, .bool false], .tuple [.str "refused", .bool true, .bool false]] = .ok (.d (.bool true)) := same_ok 8 _ rfl
abbrev eW (ns : List Int) (w : Nat) (crew : List Str) (e : Bool) (r : Rot) (k : Option SV) : En := [some (.d (.list (ns.map PyData.int))), some (.d (.int w)), some (.d (.list (crew.map PyData.str))), some (.d (.bool e)), some (.d (encR r)), k, none, none]
theorem w1_ok (ns : List Int) (w : Nat) (crew : List Str) (e : Bool) (r : Rot) (k : Int) (hk : 0 ≤ k) (h : r.Ok) (hw : 0 < w) (hw2 : w ≤ 2000) (hs : ∀ p ∈ r.ss, SubOk p) (hp : SpsOk w r) :
    law_w1 (eW ns w crew e r (some (.d (.int k)))) = .ok (.nx (eW ns w crew e r none)) := by
  obtain ⟨c, hc⟩ := cell2_ok ns (9 + k) (by omega)
  obtain ⟨t, t1, t2, t3⟩ := time_ok c
  have p := lperiod_ok w r h hw hw2
  have sr := same_r
  by_cases q : perR w r.ls 1 ≤ 2000
  · have a := first_ok w r t h hw hw2 t2 hs hp q
    obtain ⟨b, bl⟩ := lgap_ok w r t h hw hw2 t2 t3 hs q
    have a' := told_ok w r t _ a
    have sg := same_F (ticksF w r t (imax t (setR r) + (perR w r.ls 1 : Nat))) (by omega)
    generalize (ticksF w r t (imax t (setR r) + (perR w r.ls 1 : Nat))).map encFs = g at *
    generalize perR w r.ls 1 = M at *
    have q' : (M : Int) ≤ 2000 := by omega
    unfold law_w1
    simp [hc, t1, p, q, q', b, a', sg]
  · have a' := told_ex w r t (first_ex w r t h hw hw2 (by omega))
    generalize perR w r.ls 1 = M at *
    have q' : ¬ (M : Int) ≤ 2000 := by omega
    unfold law_w1
    simp [hc, t1, p, q, q', a', sr]
theorem law_true : ∀ ns : List Int, ns.length ≤ 63 → law_f [.list (ns.map PyData.int)] = .ok (.d (.bool true)) := by
  intro ns hn
  have hz := line16
  obtain ⟨days, e, crew, w1, w2, w3, w4, w5, w6⟩ := world_ok ns
  obtain ⟨w, rfl⟩ : ∃ w : Nat, days = w := ⟨days.toNat, by omega⟩
  obtain ⟨c0, hc0, hc1⟩ := atI_map PyData.str crew 0 (by omega) (by omega)
  have l1s : ("r" : Str).length = 1 := by decide +kernel
  have hr := addS_s "r" c0 (by rw [l1s]; omega) (by have := w6 c0 hc0; omega)
  obtain ⟨r, r1, r2, r3, r4, r5, _⟩ := any_ok ns 2 w ("r" ++ c0) crew e (by omega) (by omega) w4
  have r6 : SpsOk w r := fun l hl => (r5 l hl).2
  have ix0 : ixS (.d (.list (crew.map PyData.str))) (.d (.int 0)) = .ok (.d (.str c0)) := by rw [ixS_l, hc1]
  obtain ⟨ρ', e1, e2⟩ := forF_inv (k := setD 5) (b := law_w1) (fun _ ρ => ρ = eW ns w crew e r none) (rng 0 2) _ rfl (by
    rintro i x _ hx rfl
    obtain ⟨rfl, hi⟩ := rng_at hx
    exact ⟨_, _, rfl, .inl (w1_ok ns w crew e r _ (by omega) r2 (by omega) (by omega) r4 r6), rfl⟩)
  subst e2
  have hb : ∀ ρ, ρ = [some (.d (.list (ns.map PyData.int))), none, none, none, none, none, none, none] → law_b ρ = .ok (.rt (.d (.bool true))) := by
    rintro _ rfl
    unfold law_b
    refine seq_nx (ρ1 := [some (.d (.list (ns.map PyData.int))), some (.d (.int w)), some (.d (.list (crew.map PyData.str))), some (.d (.bool e)), none, none, none, none]) (by simp [w1]) ?_
    exact seq_nx (asg_nx (r := .d (encR r)) (by simp [ix0, hr, r1]) rfl) (seq_nx (forS_rng1 (by simp) okR_2 e1) rfl)
  exact runB_rt (hb _ rfl) rfl
end K53
open PySem PySem.W PyProof.Rows
set_option maxRecDepth 100000 in
set_option maxHeartbeats 0 in
theorem PySem.Challenge.cw_watchfloor_k53_calendars_ever_on_call_fi_holds : PySem.Challenge.rw_watchfloor_k53_calendars_ever_on_call_fi.Holds := by
  w_on; o_law; k_head; (case hw => w_witness2)
  k_fill
  refine L2.walk_of (l := PySem.Challenge.rw_watchfloor_k53_calendars_ever_on_call_fi) (n := 63) (k := 10) (x := "_law_script") (CX := fun _ => L2.CX0) (sp := fun w => Pl.spL _ 1 K53.law_f) rfl (by decide) rfl ⟨rfl, by decide, by decide⟩ (fun w h Y => PySem.W.kIn_of Y) ?F (fun _ H a ns hl _ hS => Pl.law_spL hS (K53.law_true ns hl)) (fun _ _ _ _ _ h => h)
  case F =>
    intro w mg fa h KX G hmg
    refine' K53.all_mk KX G hmg ?a_in_spans ?l_in_spans ?c_in_spans ?k_in_spans ?a_on_layer ?l_on_layer ?c_on_layer ?k_on_layer ?a_on_call ?l_on_call ?c_on_call ?k_on_call ?a_layer_breaks ?l_layer_breaks ?c_layer_breaks ?k_layer_breaks ?a_next_break ?l_next_break ?c_next_break ?k_next_break ?a_settled ?l_settled ?c_settled ?k_settled ?a_period ?l_period ?c_period ?k_period ?a_stretches ?l_stretches ?c_stretches ?k_stretches ?a_bounded ?l_bounded ?c_bounded ?k_bounded ?a_ever_on_call ?l_ever_on_call ?c_ever_on_call ?k_ever_on_call ?a_law_cell ?l_law_cell ?c_law_cell ?k_law_cell ?a_law_draws ?l_law_draws ?c_law_draws ?k_law_draws ?a_law_same ?l_law_same ?c_law_same ?k_law_same ?a_law_words ?l_law_words ?c_law_words ?k_law_words ?a_law_layer ?l_law_layer ?c_law_layer ?k_law_layer ?a_law_rota ?l_law_rota ?c_law_rota ?k_law_rota ?a_law_edge ?l_law_edge ?c_law_edge ?k_law_edge ?a_law_world ?l_law_world ?c_law_world ?k_law_world ?a_law_any ?l_law_any ?c_law_any ?k_law_any ?a_law_inside ?l_law_inside ?c_law_inside ?k_law_inside ?a_law_member ?l_law_member ?c_law_member ?k_law_member ?a_law_on ?l_law_on ?c_law_on ?k_law_on ?a_law_lcm ?l_law_lcm ?c_law_lcm ?k_law_lcm ?a_law_period ?l_law_period ?c_law_period ?k_law_period ?a_law_settled ?l_law_settled ?c_law_settled ?k_law_settled ?a_law_time ?l_law_time ?c_law_time ?k_law_time ?a_law_firsts ?l_law_firsts ?c_law_firsts ?k_law_firsts ?a_law_told ?l_law_told ?c_law_told ?k_law_told ?a_law ?l_law ?c_law ?k_law ?v_MOST_PERIOD ?v_lcm ?xg_PeriodTooLong ?xg_WatchError ?xg_TooManyTimes ?xb_PeriodTooLong ?xt_PeriodTooLong ?xd_PeriodTooLong ?xb_WatchError ?xt_WatchError ?xd_WatchError ?xb_TooManyTimes ?xt_TooManyTimes ?xd_TooManyTimes ?xe_PeriodTooLong ?xk_PeriodTooLong ?xs_PeriodTooLong_WatchError ?xi_PeriodTooLong_PeriodTooLong ?xi_PeriodTooLong_TooManyTimes ?xA_PeriodTooLong ?xB_PeriodTooLong ?xC_PeriodTooLong ?xD_PeriodTooLong ?xE_PeriodTooLong ?xF_PeriodTooLong ?z_any ?z_bool ?z_int ?z_isinstance ?z_len ?z_list ?z_max ?z_min ?z_range ?z_str ?z_tuple
    (case a_in_spans => k_is); (case l_in_spans => k_is); (case c_in_spans => k_is); (case k_in_spans => k_is); (case a_on_layer => k_is); (case l_on_layer => k_is); (case c_on_layer => k_is); (case k_on_layer => k_is); (case a_on_call => k_is); (case l_on_call => k_is); (case c_on_call => k_is); (case k_on_call => k_is); (case a_layer_breaks => k_is); (case l_layer_breaks => k_is); (case c_layer_breaks => k_is); (case k_layer_breaks => k_is); (case a_next_break => k_is); (case l_next_break => k_is); (case c_next_break => k_is); (case k_next_break => k_is); (case a_settled => k_is); (case l_settled => k_is); (case c_settled => k_is); (case k_settled => k_is); (case a_period => k_is); (case l_period => k_is); (case c_period => k_is); (case k_period => k_is); (case a_stretches => k_is); (case l_stretches => k_is); (case c_stretches => k_is); (case k_stretches => k_is); (case a_bounded => k_is); (case l_bounded => k_is); (case c_bounded => k_is); (case k_bounded => k_is); (case a_ever_on_call => k_is); (case l_ever_on_call => k_is); (case c_ever_on_call => k_is); (case k_ever_on_call => k_is); (case a_law_cell => k_is); (case l_law_cell => k_is); (case c_law_cell => k_is); (case k_law_cell => k_is); (case a_law_draws => k_is); (case l_law_draws => k_is); (case c_law_draws => k_is); (case k_law_draws => k_is); (case a_law_same => k_is); (case l_law_same => k_is); (case c_law_same => k_is); (case k_law_same => k_is); (case a_law_words => k_is); (case l_law_words => k_is); (case c_law_words => k_is); (case k_law_words => k_is); (case a_law_layer => k_is); (case l_law_layer => k_is); (case c_law_layer => k_is); (case k_law_layer => k_is); (case a_law_rota => k_is); (case l_law_rota => k_is); (case c_law_rota => k_is); (case k_law_rota => k_is); (case a_law_edge => k_is); (case l_law_edge => k_is); (case c_law_edge => k_is); (case k_law_edge => k_is); (case a_law_world => k_is); (case l_law_world => k_is); (case c_law_world => k_is); (case k_law_world => k_is); (case a_law_any => k_is); (case l_law_any => k_is); (case c_law_any => k_is); (case k_law_any => k_is); (case a_law_inside => k_is); (case l_law_inside => k_is); (case c_law_inside => k_is); (case k_law_inside => k_is); (case a_law_member => k_is); (case l_law_member => k_is); (case c_law_member => k_is); (case k_law_member => k_is); (case a_law_on => k_is); (case l_law_on => k_is); (case c_law_on => k_is); (case k_law_on => k_is); (case a_law_lcm => k_is); (case l_law_lcm => k_is); (case c_law_lcm => k_is); (case k_law_lcm => k_is); (case a_law_period => k_is); (case l_law_period => k_is); (case c_law_period => k_is); (case k_law_period => k_is); (case a_law_settled => k_is); (case l_law_settled => k_is); (case c_law_settled => k_is); (case k_law_settled => k_is); (case a_law_time => k_is); (case l_law_time => k_is); (case c_law_time => k_is); (case k_law_time => k_is); (case a_law_firsts => k_is); (case l_law_firsts => k_is); (case c_law_firsts => k_is); (case k_law_firsts => k_is); (case a_law_told => k_is); (case l_law_told => k_is); (case c_law_told => k_is); (case k_law_told => k_is); (case a_law => k_is); (case l_law => k_is); (case c_law => k_is); (case k_law => k_is); (case v_MOST_PERIOD => k_is); (case v_lcm => k_is); (case xg_PeriodTooLong => k_is); (case xg_WatchError => k_is); (case xg_TooManyTimes => k_is); (case xb_PeriodTooLong => k_is); (case xt_PeriodTooLong => k_is); (case xd_PeriodTooLong => k_is); (case xb_WatchError => k_is); (case xt_WatchError => k_is); (case xd_WatchError => k_is); (case xb_TooManyTimes => k_is); (case xt_TooManyTimes => k_is); (case xd_TooManyTimes => k_is); (case xe_PeriodTooLong => k_exc); (case xk_PeriodTooLong => k_is); (case xs_PeriodTooLong_WatchError => first | rfl | k_is); (case xi_PeriodTooLong_PeriodTooLong => kit_is); (case xi_PeriodTooLong_TooManyTimes => kit_is); (case xA_PeriodTooLong => k_is); (case xB_PeriodTooLong => k_is); (case xC_PeriodTooLong => k_is); (case xD_PeriodTooLong => k_is); (case xE_PeriodTooLong => k_is); (case xF_PeriodTooLong => k_is); (case z_any => k_is); (case z_bool => k_is); (case z_int => k_is); (case z_isinstance => k_is); (case z_len => k_is); (case z_list => k_is); (case z_max => k_is); (case z_min => k_is); (case z_range => k_is); (case z_str => k_is); (case z_tuple => k_is)
