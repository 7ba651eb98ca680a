import PyProof.Rows.All
import Wide.All
import OpenK.AllK
import Wide.FinOn
import HandS.ForMost
import HandS.IsInst
import HandS.Deep
import HandS.TupAny
import HandS.Walk
import HandS.Flow
import HandS.Dict
import HandS.Iter
import HandS.List
import KE.KDictKeyed
import KE.KDictCopyH
import KE.KDictList
import KE.DataEq
import HandS.NoneIn
import HandS.Conv
import HandS.Style
import KE.SortData
import KE.SortCalls
import KE.KSortTup
import KE.LtSeq
import KE.LtData
import KE.GoesEnum
import PyProof.EnumFor
import HandS.Gcd
import KE.KMathGC
import HandS.ForExc
import HandS.ExcIs
import HandS.Flt
import HandS.ForDict
import HandS.More
import KE.KExcIs
import HandS.Zip
import PySem.Challenge.RW_watchfloor_k43_routes_blockers
set_option Elab.async false
set_option linter.all false
set_option maxRecDepth 100000
set_option maxHeartbeats 4000000
/-! Pl0: dicts whose keys are tuples (nested), as things known by their one object: kdx; the hand rules for them; list(d), sorted(d) up to the sort. -/
namespace Pl
open PySem PySem.Spec PyProof.Rows L2
abbrev D := PyData

/-! ### keys -/
mutual
def nkD : D → Option NestedKey
  | .none => some .none
  | .bool _ => none
  | .int i => some (.num i)
  | .str s => some (.text s)
  | .list _ => none
  | .tuple ds => (nkAll ds).map .tup
  | .dict _ => none
def nkAll : List D → Option (List NestedKey)
  | [] => some []
  | d :: ds => match nkD d with
    | none => none
    | some k => match nkAll ds with
      | none => none
      | some ks => some (k :: ks)
end
mutual
theorem nk_data : ∀ (d : D) (k : NestedKey), nkD d = some k → k.data = d
  | .none, _, h => by unfold nkD at h; cases h; rfl
  | .bool _, _, h => by unfold nkD at h; cases h
  | .int i, _, h => by unfold nkD at h; cases h; rfl
  | .str s, _, h => by unfold nkD at h; cases h; rfl
  | .list _, _, h => by unfold nkD at h; cases h
  | .tuple ds, k, h => by
    unfold nkD at h
    obtain ⟨ks, h1, rfl⟩ := Option.map_eq_some_iff.mp h
    show PyData.tuple (NestedKey.datas ks) = _
    rw [nk_datas ds ks h1]
  | .dict _, _, h => by unfold nkD at h; cases h
theorem nk_datas : ∀ (ds : List D) (ks : List NestedKey), nkAll ds = some ks → NestedKey.datas ks = ds
  | [], _, h => by unfold nkAll at h; cases h; rfl
  | d :: ds, ks, h => by
    unfold nkAll at h
    cases e1 : nkD d with
    | none => rw [e1] at h; cases h
    | some k =>
      rw [e1] at h
      dsimp only at h
      cases e2 : nkAll ds with
      | none => rw [e2] at h; cases h
      | some ks' =>
        rw [e2] at h
        cases h
        show k.data :: NestedKey.datas ks' = _
        rw [nk_data d k e1, nk_datas ds ks' e2]
end
mutual
theorem nis_of {X : Cx} {pins : List (Addr × Obj)} {σ : L2.St} {H : Hp} {s : Shared} (I : Inv X pins σ H s) : ∀ (k : NestedKey) (v : V) (u : Value), Dp X.K H v k.data → RelV v u → NestedIs s.heap k u
  | .none, v, u, h, r => by
    have h' : Dp X.K H v .none := h
    cases h'; cases r; exact .none
  | .num i, v, u, h, r => by
    have h' : Dp X.K H v (.int i) := h
    cases h'; obtain ⟨t, rfl⟩ := r; exact .int i t
  | .text x, v, u, h, r => by
    have h' : Dp X.K H v (.str x) := h
    cases h'; obtain ⟨t, rfl⟩ := r; exact .text x t
  | .tup ks, v, u, h, r => by
    have h' : Dp X.K H v (.tuple (NestedKey.datas ks)) := h
    cases h' with
    | tup hs ha =>
      cases r
      obtain ⟨its, rv, ⟨o, ho, hc, n, hd⟩, _⟩ := I.tuple hs
      exact .tup ho hc hd (by simpa using nis_all I ks _ _ ha rv)
theorem nis_all {X : Cx} {pins : List (Addr × Obj)} {σ : L2.St} {H : Hp} {s : Shared} (I : Inv X pins σ H s) : ∀ (ks : List NestedKey) (vs : List V) (us : List Value), DpAll X.K H vs (NestedKey.datas ks) → Vals vs us → NestedAll s.heap ks us
  | [], vs, us, h, r => by
    have h' : DpAll X.K H vs [] := h
    cases h'; cases r; exact .nil
  | k :: ks, vs, us, h, r => by
    have h' : DpAll X.K H vs (k.data :: NestedKey.datas ks) := h
    cases h' with
    | cons a b =>
      cases r with
      | cons r1 r2 => exact .cons (nis_of I k _ _ a r1) (nis_all I ks _ _ b r2)
end
/-! ### the dict's object -/
abbrev KX := List (NestedKey × Addr × V)
def KRel (x : NestedKey × Addr × V) (y : NestedKey × Addr × Value) : Prop := x.1 = y.1 ∧ x.2.1 = y.2.1 ∧ RelV x.2.2 y.2.2
def entN (w : World) (x : NestedKey × Addr × Value) : DictEntry := ⟨x.1.hash w, .ref x.2.1, x.2.2⟩
def KFact (w : World) (a : Addr) (ep : Nat) (xs : KX) (h : Heap) : Prop :=
  xs.length ≤ sizeLine ∧ (a == sysModules) = false ∧ ∃ (ys : List (NestedKey × Addr × Value)) (o : Obj) (es : Array DictEntry), Paired KRel xs ys ∧ h.get? a = some o ∧ o.ExactDict ∧ o.data = .dict es ep ∧ es.toList = ys.map (entN w) ∧ (ys.map (·.1)).Nodup
def kdx (w : World) (a : Addr) (ep : Nat) (xs : KX) : HO := .ext (KFact w a ep xs)
theorem kfact_keep {w : World} {a : Addr} {ep : Nat} {xs : KX} (h1 h2 : Heap) (q : KFact w a ep xs h1) (k : ∀ o, h1.get? a = some o → h2.get? a = some o) : KFact w a ep xs h2 := by
  obtain ⟨l, n, ys, o, es, r, ho, x⟩ := q
  exact ⟨l, n, ys, o, es, r, k o ho, x⟩
theorem kfact_ok {P : Program} {w : World} {H : Hp} {h : Heap} {a : Addr} {ep : Nat} {xs : KX} (q : KFact w a ep xs h) : ObjOk P w H h a (kdx w a ep xs) := by
  obtain ⟨l, n, ys, o, es, r, ho, x⟩ := id q
  exact ⟨q, ⟨o, ho⟩, kfact_keep⟩
def KeyH (K : PySem.W.Frag) (H : Hp) (k : NestedKey) (b : Addr) : Prop := Dp K H (.ref b) k.data ∧ k.depth ≤ 8
def KD (K : PySem.W.Frag) (w : World) (H : Hp) (a : Addr) (xs : KX) : Prop := (∃ ep, H a = some (kdx w a ep xs)) ∧ ∀ x ∈ xs, KeyH K H x.1 x.2.1
def valX (xs : KX) (k : NestedKey) : Option V := (xs.find? fun x => decide (x.1 = k)).map (·.2.2)
def putX (xs : KX) (k : NestedKey) (b : Addr) (v : V) : KX :=
  if (valX xs k).isSome = true then xs.map (fun x => if x.1 = k then (x.1, x.2.1, v) else x) else xs ++ [(k, b, v)]
theorem valX_pos {p : NestedKey × Addr × V} {r : KX} {k : NestedKey} (e : p.1 = k) : valX (p :: r) k = some p.2.2 := by simp [valX, List.find?_cons, e]
theorem valX_neg {p : NestedKey × Addr × V} {r : KX} {k : NestedKey} (e : ¬ p.1 = k) : valX (p :: r) k = valX r k := by simp [valX, List.find?_cons, e]
theorem krel_val (k : NestedKey) : ∀ {xs : KX} {ys : List (NestedKey × Addr × Value)}, Paired KRel xs ys → RelO (valX xs k) ((atKey ys k).map (·.2))
  | _, _, .nil => True.intro
  | _, _, .cons (a := p) (b := q) (l₂ := qs) h t => by
    obtain ⟨h1, _, h2⟩ := h
    by_cases e : p.1 = k
    · have b : atKey (q :: qs) k = some q.2 := by simp [atKey, List.find?_cons, h1.symm.trans e]
      rw [valX_pos e, b]; exact h2
    · have b : atKey (q :: qs) k = atKey qs k := by simp [atKey, List.find?_cons, show ¬ q.1 = k from fun z => e (h1.trans z)]
      rw [valX_neg e, b]; exact krel_val k t
theorem krel_repl (k : NestedKey) {y : V} {u : Value} (ry : RelV y u) : ∀ {xs : KX} {ys : List (NestedKey × Addr × Value)}, Paired KRel xs ys →
    Paired KRel (xs.map fun x => if x.1 = k then (x.1, x.2.1, y) else x) (ys.map (putAt k u))
  | _, _, .nil => .nil
  | _, _, .cons (a := p) (b := q) h t => by
    rw [List.map_cons, List.map_cons]
    refine .cons ?_ (krel_repl k ry t)
    obtain ⟨h1, h2, h3⟩ := h
    unfold putAt
    by_cases e : p.1 = k
    · rw [if_pos e, if_pos (h1.symm.trans e)]; exact ⟨h1, h2, ry⟩
    · rw [if_neg e, if_neg (fun z => e (h1.trans z))]; exact ⟨h1, h2, h3⟩
theorem krel_put {xs : KX} {ys : List (NestedKey × Addr × Value)} (r : Paired KRel xs ys) (k : NestedKey) {b : Addr} {y : V} {u : Value} (ry : RelV y u) : Paired KRel (putX xs k b y) (storedH ys k b u) := by
  have e : (valX xs k).isSome = (atKey ys k).isSome := by rw [(krel_val k r).isSome_eq, Option.isSome_map]
  unfold putX storedH
  rw [e]
  split
  · exact krel_repl k ry r
  · exact Paired.snoc r ⟨rfl, rfl, ry⟩
theorem putX_len (xs : KX) (k : NestedKey) (b : Addr) (v : V) : (putX xs k b v).length ≤ xs.length + 1 := by
  unfold putX
  split
  · rw [List.length_map]; omega
  · rw [List.length_append, List.length_cons, List.length_nil]; omega
theorem krel_mem : ∀ {xs : KX} {ys : List (NestedKey × Addr × Value)}, Paired KRel xs ys → ∀ y ∈ ys, ∃ x ∈ xs, x.1 = y.1 ∧ x.2.1 = y.2.1
  | _, _, .nil, y, h => by cases h
  | _, _, .cons h t, y, hy => by
    rcases List.mem_cons.mp hy with rfl | hy
    · exact ⟨_, List.mem_cons_self, h.1, h.2.1⟩
    · obtain ⟨x, h1, h2⟩ := krel_mem t y hy
      exact ⟨x, List.mem_cons_of_mem _ h1, h2⟩
theorem krel_keys : ∀ {xs : KX} {ys : List (NestedKey × Addr × Value)}, Paired KRel xs ys → Vals (xs.map fun x => V.ref x.2.1) (ys.map fun y => Value.ref y.2.1)
  | _, _, .nil => .nil
  | _, _, .cons h t => .cons (by show Value.ref _ = Value.ref _; rw [h.2.1]) (krel_keys t)
section
variable {X : Cx} {pins : List (Addr × Obj)} {σ : L2.St} {H : Hp} {s : Shared} {a b : Addr} {k : NestedKey} {xs : KX} {v : V} {u r : Value} {A : Around} {E : Value → Shared → Prop}
theorem key_is (I : Inv X pins σ H s) (h : KeyH X.K H k b) : (nestedKind X.prog X.w).is s.heap k b := ⟨nis_of I k (.ref b) (.ref b) h.1 rfl, h.2⟩
theorem kd_of (I : Inv X pins σ H s) (h : KD X.K X.w H a xs) : xs.length ≤ sizeLine ∧ (a == sysModules) = false ∧ ∃ ys, Paired KRel xs ys ∧ s.heap.DictOfH (nestedKind X.prog X.w) a ys := by
  obtain ⟨⟨ep, h1⟩, h2⟩ := h
  obtain ⟨l, n, ys, o, es, r, ho, hx, hd, he, hn⟩ := (I.hok a _ h1).1
  refine ⟨l, n, ys, r, o, es, ep, ho, hx, hd, he, fun y hy => ?_, hn⟩
  obtain ⟨x, q1, q2, q3⟩ := krel_mem r y hy
  rw [← q2, ← q3]
  exact key_is I (h2 x q1)
theorem kfact_of {P : Program} {w : World} {h : Heap} {ys : List (NestedKey × Addr × Value)} (l : xs.length ≤ sizeLine) (n : (a == sysModules) = false) (r : Paired KRel xs ys) (dd : h.DictOfH (nestedKind P w) a ys) : ∃ ep, KFact w a ep xs h := by
  obtain ⟨o, es, ep, ho, hx, hd, he, _, hn⟩ := dd
  exact ⟨ep, l, n, ys, o, es, r, ho, hx, hd, he, hn⟩
theorem kd_room (hu : A.units + 65 < cLine) : (nestedKind X.prog X.w).room A.in1 := by
  show A.units + 1 + 8 < cLine
  omega
theorem kd_getItem {Q : Value → Shared → Prop} (hu : A.units + 65 < cLine) (I : Inv X pins σ H s) (g : KD X.K X.w H a xs) (hk : KeyH X.K H k b) (hv : valX xs k = some v) (h : ∀ w' s', Inv X pins σ H s' → RelV v w' → Q w' s') :
    wpAny (model X.prog X.w) A (getItem (.ref a) (.ref b)) Q E s := by
  obtain ⟨l, n, ys, r, dd⟩ := kd_of I g
  obtain ⟨w', hw, rw'⟩ := RelO.some_of (v := v) (o := (atKey ys k).map (·.2)) (by rw [← hv]; exact krel_val k r)
  obtain ⟨p, hp, hp2⟩ := Option.map_eq_some_iff.mp hw
  refine wpAny_getItem_heap (kd_room hu) (key_is I hk) dd hp ?_
  rw [hp2]
  exact h w' _ (I.tok _) rw'
theorem kd_in {Q : Value → Shared → Prop} (hu : A.units + 65 < cLine) (I : Inv X pins σ H s) (g : KD X.K X.w H a xs) (hk : KeyH X.K H k b) (h : ∀ s', Inv X pins σ H s' → Q (.bool (valX xs k).isSome) s') :
    wpAny (model X.prog X.w) A (compareOp .In (.ref b) (.ref a)) Q E s := by
  obtain ⟨l, n, ys, r, dd⟩ := kd_of I g
  refine wpAny_in_heap (kd_room hu) (key_is I hk) n dd ?_
  have q := (krel_val k r).isSome_eq
  rw [Option.isSome_map] at q
  rw [← q]
  exact h _ (I.tok _)
theorem kd_notIn {Q : Value → Shared → Prop} (hu : A.units + 65 < cLine) (I : Inv X pins σ H s) (g : KD X.K X.w H a xs) (hk : KeyH X.K H k b) (h : ∀ s', Inv X pins σ H s' → Q (.bool (!(valX xs k).isSome)) s') :
    wpAny (model X.prog X.w) A (compareOp .NotIn (.ref b) (.ref a)) Q E s := by
  obtain ⟨l, n, ys, r, dd⟩ := kd_of I g
  refine wpAny_notIn_heap (kd_room hu) (key_is I hk) n dd ?_
  have q := (krel_val k r).isSome_eq
  rw [Option.isSome_map] at q
  rw [← q]
  exact h _ (I.tok _)
theorem kd_setItem {Q : Unit → Shared → Prop} (hu : A.units + 65 < cLine) (I : Inv X pins σ H s) (g : KD X.K X.w H a xs) (hk : KeyH X.K H k b) (hl : xs.length < sizeLine) (rv : RelV v r) (h : ∀ ep s', Inv X pins σ (upd H a (kdx X.w a ep (putX xs k b v))) s' → Q () s') :
    wpAny (model X.prog X.w) A (setItem (.ref a) (.ref b) r) Q E s := by
  obtain ⟨l, n, ys, rel, dd⟩ := kd_of I g
  have hz : ys.length ≤ sizeLine := by rw [← Paired.length rel]; exact l
  have hl' : (putX xs k b v).length ≤ sizeLine := by have := putX_len xs k b v; omega
  refine wpAny_setItem_heap (hsz := hz) (kd_room hu) (key_is I hk) dd fun h' dd' hs => ?_
  obtain ⟨ep, kf⟩ := kfact_of (w := X.w) hl' n (krel_put rel k (b := b) rv) dd'
  obtain ⟨o, _, _, ho, _⟩ := dd'
  obtain ⟨⟨ep0, e0⟩, _⟩ := g
  exact h ep _ (d_write (a := a) I (by rw [e0]; exact True.intro) hs ⟨o, ho⟩ (kfact_ok kf))
theorem kd_get1 {Q : Value → Shared → Prop} (hu : A.units + 65 < cLine) (I : Inv X pins σ H s) (g : KD X.K X.w H a xs) (hk : KeyH X.K H k b) (h : ∀ w' s', Inv X pins σ H s' → RelV ((valX xs k).getD .non) w' → Q w' s') :
    wpAny (model X.prog X.w) A (call (.builtin "dict.get") [.ref a, .ref b]) Q E s := by
  obtain ⟨l, n, ys, r, dd⟩ := kd_of I g
  exact call_meetsIn PySem.F.slot_dict_get dd.typeIs PySem.F.entry_dict_get (PySem.F.args_dict_get_2 _ _) (meetsH_dict_get (nestedKind X.prog X.w) a b n) ⟨kd_room hu, k, ys, key_is I hk, dd, h _ _ (I.tok _) ((krel_val k r).getD rfl)⟩
theorem kd_get2 {y : V} {Q : Value → Shared → Prop} (hu : A.units + 65 < cLine) (I : Inv X pins σ H s) (g : KD X.K X.w H a xs) (hk : KeyH X.K H k b) (rd : RelV y r) (h : ∀ w' s', Inv X pins σ H s' → RelV ((valX xs k).getD y) w' → Q w' s') :
    wpAny (model X.prog X.w) A (call (.builtin "dict.get") [.ref a, .ref b, r]) Q E s := by
  obtain ⟨l, n, ys, rl, dd⟩ := kd_of I g
  exact call_meetsIn PySem.F.slot_dict_get dd.typeIs PySem.F.entry_dict_get (PySem.F.args_dict_get_3 _ _ _) (meetsH_dict_get_default (nestedKind X.prog X.w) a b n r) ⟨kd_room hu, k, ys, key_is I hk, dd, h _ _ (I.tok _) ((krel_val k rl).getD rd)⟩
theorem kd_type (I : Inv X pins σ H s) (g : KD X.K X.w H a xs) : s.TypeIs (.ref a) "dict" := let ⟨_, _, _, _, dd⟩ := kd_of I g; dd.typeIs
theorem kd_noDict (I : Inv X pins σ H s) (g : KD X.K X.w H a xs) : ∀ b, Value.ref a = .ref b → ∃ ob, s.heap.get? b = some ob ∧ ob.dict = none := fun b q => by
  cases q
  obtain ⟨_, _, _, _, ob, _, _, h1, h2, _⟩ := kd_of I g
  exact ⟨ob, h1, h2.2.1⟩
end
/-! ### readings and rules -/
def tKNew (w : World) : TE := fun _ H Q => ∀ p ep, H p = none → Q (.ref p) (upd H p (kdx w p ep []))
def tKGet (K : PySem.W.Frag) (w : World) (td ty : TE) : TE := fun σ H Q => td σ H fun x H1 => ty σ H1 fun y H2 => ∃ a xs k b v, x = .ref a ∧ y = .ref b ∧ KD K w H2 a xs ∧ KeyH K H2 k b ∧ valX xs k = some v ∧ Q v H2
def tKIn (K : PySem.W.Frag) (w : World) (ty td : TE) : TE := fun σ H Q => ty σ H fun y H1 => td σ H1 fun x H2 => ∃ a xs k b, x = .ref a ∧ y = .ref b ∧ KD K w H2 a xs ∧ KeyH K H2 k b ∧ Q (.bl (valX xs k).isSome) H2
def tKNotIn (K : PySem.W.Frag) (w : World) (ty td : TE) : TE := fun σ H Q => ty σ H fun y H1 => td σ H1 fun x H2 => ∃ a xs k b, x = .ref a ∧ y = .ref b ∧ KD K w H2 a xs ∧ KeyH K H2 k b ∧ Q (.bl (!(valX xs k).isSome)) H2
def sKPut (K : PySem.W.Frag) (w : World) (td ty tv : TE) : TS := fun D σ H => tv σ H fun v H1 => td σ H1 fun x H2 => ty σ H2 fun y H3 => ∃ a xs k b, x = .ref a ∧ y = .ref b ∧ KD K w H3 a xs ∧ KeyH K H3 k b ∧ xs.length < sizeLine ∧ ∀ ep, D.nx σ (upd H3 a (kdx w a ep (putX xs k b v)))
def tKGet1 (K : PySem.W.Frag) (w : World) (td ty : TE) : TE := fun σ H Q => td σ H fun x H1 => ∃ a xs, x = .ref a ∧ KD K w H1 a xs ∧ ty σ H1 fun y H2 => ∃ k b, y = .ref b ∧ KD K w H2 a xs ∧ KeyH K H2 k b ∧ Q ((valX xs k).getD .non) H2
def tKGet2 (K : PySem.W.Frag) (w : World) (td ty tx : TE) : TE := fun σ H Q => td σ H fun x H1 => ∃ a xs, x = .ref a ∧ KD K w H1 a xs ∧ ty σ H1 fun y H2 => tx σ H2 fun z H3 => ∃ k b, y = .ref b ∧ KD K w H3 a xs ∧ KeyH K H3 k b ∧ Q ((valX xs k).getD z) H3
section
variable {X : Cx} {o i e f value : Expr} {pos pos' apos cpos : Pos} {td ty tv tx : TE}
theorem pe_knew : PE X (.Dict [] [] pos) (tKNew X.w) := ⟨fun pins s σ H Q I h =>
  wpAny_Dict_empty ⟨.ref s.heap.objs.size, _, I.laid (a := s.heap.objs.size) (o := kdx X.w s.heap.objs.size 0 []) (t' := s.toks) (fun _ _ q => Heap.get?_push_of_some _ q) (Nat.le_refl _)
    (kfact_ok ⟨Nat.zero_le _, beq_eq_false_iff_ne.mpr (Ne.symm (Nat.ne_of_lt I.big)), [], _, #[], .nil, Heap.get?_push_size _ rfl, ⟨rfl, rfl, rfl⟩, rfl, rfl, List.nodup_nil⟩), rfl, h _ _ (I.hok.fresh (Nat.le_refl _))⟩⟩
theorem pe_kget (hu : X.A.units + 65 < cLine) (ho : PE X o td) (hi : PE X i ty) (hs : NoSl i) : PE X (.Subscript o i pos) (tKGet X.K X.w td ty) := by
  refine ⟨fun pins s σ H Q I h => ?_⟩
  refine subD_of PySem.F.slot_dict_getitem.lookup hs (thn (ho.run pins s σ H _ I h) fun u s1 ⟨x, H1, I1, rx, q1⟩ => thn (hi.run pins s1 σ H1 _ I1 q1) fun iv s2 ⟨y, H2, I2, ry, a, xs, k, b, v, ex, ey, g, hk, hv, q2⟩ => ?_)
  subst ex ey
  obtain rfl : u = Value.ref a := rx
  obtain rfl : iv = Value.ref b := ry
  exact ⟨kd_type I2 g, kd_getItem hu I2 g hk hv fun w' s3 I3 rw' => ⟨v, H2, I3, rw', q2⟩⟩
theorem pc_kin (hu : X.A.units + 65 < cLine) (hi : PE X i ty) (ho : PE X o td) : PC X .In i o (tKIn X.K X.w ty td) := by
  refine ⟨fun pins s σ H Q I h => ?_⟩
  refine thn (hi.run pins s σ H _ I h) fun iv s1 ⟨y, H1, I1, ry, q1⟩ => thn (ho.run pins s1 σ H1 _ I1 q1) fun u s2 ⟨x, H2, I2, rx, a, xs, k, b, ex, ey, g, hk, q2⟩ => ?_
  subst ex ey
  obtain rfl : u = Value.ref a := rx
  obtain rfl : iv = Value.ref b := ry
  exact kd_in hu I2 g hk fun s3 I3 => ⟨.bl (valX xs k).isSome, H2, I3, rfl, q2⟩
theorem pc_knotin (hu : X.A.units + 65 < cLine) (hi : PE X i ty) (ho : PE X o td) : PC X .NotIn i o (tKNotIn X.K X.w ty td) := by
  refine ⟨fun pins s σ H Q I h => ?_⟩
  refine thn (hi.run pins s σ H _ I h) fun iv s1 ⟨y, H1, I1, ry, q1⟩ => thn (ho.run pins s1 σ H1 _ I1 q1) fun u s2 ⟨x, H2, I2, rx, a, xs, k, b, ex, ey, g, hk, q2⟩ => ?_
  subst ex ey
  obtain rfl : u = Value.ref a := rx
  obtain rfl : iv = Value.ref b := ry
  exact kd_notIn hu I2 g hk fun s3 I3 => ⟨.bl (!(valX xs k).isSome), H2, I3, rfl, q2⟩
theorem ps_kput (hu : X.A.units + 65 < cLine) (ho : PE X o td) (hi : PE X i ty) (hv : PE X value tv) (hs : swapsWith value (some (.Subscript o i pos')) pos.line X.env = pure false) :
    PS X (.Assign [.Subscript o i pos'] value pos) (sKPut X.K X.w td ty tv) := by
  refine ⟨fun pins s σ H D I h => ?_⟩
  refine wpAny_Assign_Subscript (thn (hv.run pins s σ H _ I h) fun r s1 ⟨v, H1, I1, rv, q1⟩ => thn (ho.run pins s1 σ H1 _ I1 q1) fun u s2 ⟨x, H2, I2, rx, q2⟩ => thn (hi.run pins s2 σ H2 _ I2 q2) fun iv s3 ⟨y, H3, I3, ry, a, xs, k, b, ex, ey, g, hk, hl, q3⟩ => ?_) hs
  subst ex ey
  obtain rfl : u = Value.ref a := rx
  obtain rfl : iv = Value.ref b := ry
  exact kd_setItem hu I3 g hk hl rv fun ep s4 I4 => ⟨σ, _, I4, q3 ep⟩
theorem pe_kget1 (hu : X.A.units + 65 < cLine) (ho : PE X o td) (he : PE X e ty) (m : M1 X o "get" apos e cpos) : PE X (.Call (.Attribute o "get" apos) [e] [] cpos) (tKGet1 X.K X.w td ty) := by
  refine ⟨fun pins s σ H Q I h => ?_⟩
  refine wpAny_Call_method m.base m.few m.line PySem.F.plainAttrs_dict PySem.F.slot_dict_get PySem.F.type_dict_get (thn (ho.run pins s σ H _ I h) fun u s1 ⟨x, H1, I1, rx, a, xs, ex, d, q1⟩ => ?_)
  subst ex
  obtain rfl : u = Value.ref a := rx
  refine ⟨kd_type I1 d, kd_noDict I1 d, ?_⟩
  rw [m.trees]
  refine Calls.callWith_builtin rfl (Calls.evalArgs_plain (Calls.spliced_cons (thn (he.run pins s1 σ H1 _ I1 q1) fun iv s2 ⟨y, H2, I2, ry, k, b, ey, g, hk, q2⟩ => Calls.spliced_nil ?_)))
  subst ey
  obtain rfl : iv = Value.ref b := ry
  exact kd_get1 hu I2 g hk fun w' s3 I3 rw' => ⟨_, H2, I3, rw', q2⟩
theorem pe_kget2 (hu : X.A.units + 65 < cLine) (ho : PE X o td) (he : PE X e ty) (hf : PE X f tx) (m : M2 X o "get" apos e f cpos) : PE X (.Call (.Attribute o "get" apos) [e, f] [] cpos) (tKGet2 X.K X.w td ty tx) := by
  refine ⟨fun pins s σ H Q I h => ?_⟩
  refine wpAny_Call_method m.base m.few m.line PySem.F.plainAttrs_dict PySem.F.slot_dict_get PySem.F.type_dict_get (thn (ho.run pins s σ H _ I h) fun u s1 ⟨x, H1, I1, rx, a, xs, ex, d, q1⟩ => ?_)
  subst ex
  obtain rfl : u = Value.ref a := rx
  refine ⟨kd_type I1 d, kd_noDict I1 d, ?_⟩
  rw [m.trees]
  refine Calls.callWith_builtin rfl (Calls.evalArgs_plain (Calls.spliced_cons (thn (he.run pins s1 σ H1 _ I1 q1) fun iv s2 ⟨y, H2, I2, ry, q2⟩ =>
    Calls.spliced_cons (thn (hf.run pins s2 σ H2 _ I2 q2) fun fv s3 ⟨z, H3, I3, rz, k, b, ey, g, hk, q3⟩ => Calls.spliced_nil ?_))))
  subst ey
  obtain rfl : iv = Value.ref b := ry
  exact kd_get2 hu I3 g hk rz fun w' s4 I4 rw' => ⟨_, H3, I4, rw', q3⟩
end
/-! ### a walk over the keys -/
def Itx (w : World) (d : Addr) (ep : Nat) (xs : KX) : It :=
  ⟨fun i H => H d = some (kdx w d ep xs) ∧ i < xs.length, fun i H x H' => H' = H ∧ ∃ y, xs[i]? = some y ∧ x = .ref y.2.1, fun i H => H d = some (kdx w d ep xs) ∧ xs.length ≤ i⟩
theorem krel_at : ∀ {xs : KX} {ys : List (NestedKey × Addr × Value)} {i : Nat} {x : NestedKey × Addr × V}, Paired KRel xs ys → xs[i]? = some x → ∃ y, ys[i]? = some y ∧ KRel x y := fun r e => paired_get r e
theorem turn_kd {P : Program} {w : World} {K : PySem.W.Frag} {tg : Expr} {d : Addr} {ep : Nat} {xs : KX} (it : Addr) : Turn P w K tg (Itx w d ep xs) [it] it (fun i h => h.IsKeyIter it d i xs.length ep) where
  mem := by simp
  obj := fun i h st b hb => by
    have e : b = it := by simpa using hb
    subst e
    obtain ⟨oi, e, c, dd⟩ := st
    exact ⟨oi, e, fun v z => by rw [dd] at z; cases z⟩
  keep := fun i h h' st k => st.at fun oi e => k it (by simp) oi e
  item := by
    intro X hP hw hK hc i pins s σ H E I hf st hg
    subst hP hw hK
    obtain ⟨hd, hi⟩ := hg
    obtain ⟨f0, f1, f2, f3, f4, f5⟩ := hf it (by simp)
    obtain ⟨l, n, ys, o, es, r, ho, hx, hdt, he, hn⟩ := (I.hok d _ hd).1
    have hsz : es.size = xs.length := by rw [← Array.length_toList, he, List.length_map, ← Paired.length r]
    obtain ⟨x, hxi⟩ : ∃ x, xs[i]? = some x := ⟨xs[i], List.getElem?_eq_getElem hi⟩
    obtain ⟨y, hy, k1, k2, k3⟩ := krel_at r hxi
    have hen : es[i]? = some (entN X.w y) := by rw [← Array.getElem?_toList, he, List.getElem?_map, hy]; rfl
    refine next_key_item st ho hdt hsz hen fun h' st' sb => ?_
    have I1 : Inv X pins σ H { s with heap := h' } := I.turned (t' := s.toks) (fun b ob hb e => (sb.2 b hb).trans e) f0 f1 f3 f4 f5
    obtain ⟨oi, e, c, dd⟩ := id st'
    exact ⟨.ref y.2.1, rfl, go_of (s := { s with heap := h' }) e c dd (by decide) ⟨.ref x.2.1, H, I1, by show Value.ref _ = Value.ref _; rw [k2], ⟨rfl, x, hxi, rfl⟩, st', fun b hb => (hf b hb).1⟩⟩
  done := by
    intro X hP hw hK hc i pins s σ H E I hf st hg
    subst hP hw hK
    obtain ⟨hd, hi⟩ := hg
    obtain ⟨f0, f1, f2, f3, f4, f5⟩ := hf it (by simp)
    obtain ⟨l, n, ys, o, es, r, ho, hx, hdt, he, hn⟩ := (I.hok d _ hd).1
    have hsz : es.size = xs.length := by rw [← Array.length_toList, he, List.length_map, ← Paired.length r]
    exact next_key_end (I.ok.hd hc) st ho hdt hsz hi fun h' eb => ⟨rfl, I.turned (t' := s.toks) (fun b ob hb e => eb b ob hb e) f0 f1 f3 f4 f5⟩
  self := fun A i s Q E st h => wpAny_pyIter_keyiter st h
def iKKeys (w : World) (td : TE) : TI := fun σ H R => td σ H fun x H1 => ∃ d ep xs, x = .ref d ∧ H1 d = some (kdx w d ep xs) ∧ R (Itx w d ep xs) H1
theorem pi_kkeys {X : Cx} {tg e : Expr} {td : TE} (he : PE X e td) : PI X tg e (iKKeys X.w td) := by
  refine ⟨fun pins s σ H R I h => ?_⟩
  refine thn (he.run pins s σ H _ I h) fun u s1 ⟨x, H1, I1, rx, d, ep, xs, ex, hd, q⟩ => ?_
  subst ex
  obtain rfl : u = Value.ref d := rx
  obtain ⟨l, n, ys, o, es, r, ho, hx, hdt, hes, hn⟩ := (I1.hok d _ hd).1
  have hsz : es.size = xs.length := by rw [← Array.length_toList, hes, List.length_map, ← Paired.length r]
  refine iter_keys n ho hx hdt (pi_one (tk := s1.toks) I1 _ (turn_kd _) ⟨_, Heap.get?_push_size _ rfl, rfl, ?_⟩ q)
  rw [hsz] <;> rfl
theorem walk_kd {w : World} {d : Addr} {ep : Nat} {xs : KX} : Walk (Itx w d ep xs) xs.length (fun H => H d = some (kdx w d ep xs)) (fun i H x H' => H' = H ∧ ∃ y, xs[i]? = some y ∧ x = .ref y.2.1) :=
  ⟨fun _ _ hi q => ⟨q, hi⟩, fun _ q => ⟨q, Nat.le_refl _⟩, fun _ _ _ _ _ _ y => y⟩
/-! ### the keys as a row: list(d), sorted(d) -/
def KRow (w : World) (H : Hp) (a : Addr) (ks : List V) : Prop := (∃ kvs : List (Key × V), Rd H a (.dK kvs) ∧ ks = kvs.map fun kv => kV kv.1) ∨ ∃ ep xs, H a = some (kdx w a ep xs) ∧ ks = xs.map fun x => V.ref x.2.1
end Pl
/-! Pl: a pure layer. Each reading t of the hand layer gets a plain function f over data; Sem c t f says: where f answers, t is shown. -/
namespace Pl
open PySem PySem.Spec PyProof.Rows L2

inductive R (α : Type) where
  | ok (a : α) | ex (c : Nat) (as : List D) | bad
def R.bind {α β : Type} (x : R α) (f : α → R β) : R β := match x with
  | .ok a => f a | .ex c as => .ex c as | .bad => .bad
instance : Monad R where
  pure := R.ok
  bind := R.bind
@[simp] theorem ok_bind {α β : Type} (a : α) (f : α → R β) : (R.ok a >>= f) = f a := rfl
@[simp] theorem ex_bind {α β : Type} (c : Nat) (as : List D) (f : α → R β) : (R.ex c as >>= f) = R.ex c as := rfl
@[simp] theorem bad_bind {α β : Type} (f : α → R β) : ((R.bad : R α) >>= f) = R.bad := rfl
@[simp] theorem pure_R {α : Type} (a : α) : (pure a : R α) = R.ok a := rfl
theorem bind_assoc' {α β γ : Type} (x : R α) (f : α → R β) (g : β → R γ) : ((x >>= f) >>= g) = (x >>= fun a => f a >>= g) := by cases x <;> rfl

inductive SV where
  | d (x : D) | ol (xs : List D) | od (kvs : List (Key × D)) | pin (xs : List D) | exn (n : Nat) (as : List D) | pd (kvs : List (Key × D)) | kd (kvs : List (NestedKey × D)) | sk (kvs : List (NestedKey × D)) | sd (kvs : List (Key × D)) | so (C : Nat) (fs : List (Str × D)) | oi (C : Nat) (fs : List (Str × D))
def SV.own : SV → Bool
  | .d _ => false
  | .pin _ => false
  | .exn _ _ => false
  | .pd _ => false
  | .sk _ => false
  | .sd _ => false
  | .so _ _ => false
  | _ => true
def SV.npin : SV → Bool
  | .pin _ => false
  | .exn _ _ => false
  | .pd _ => false
  | _ => true
abbrev En := List (Option SV)
inductive Fl where
  | nx (ρ : En) | rt (r : SV) | bk (ρ : En) | ct (ρ : En)

/-! ### heaps -/
structure Ext (Hf H Hf' H' : Hp) : Prop where
  f : Same Hf Hf'
  h : Same H H'
  i : Same Hf' H'
  n : ∀ p, Hf' p ≠ none → Hf p ≠ none ∨ H p = none
theorem Ext.refl {Hf H : Hp} (i : Same Hf H) : Ext Hf H Hf H := ⟨.refl _, .refl _, i, fun _ h => .inl h⟩
theorem Ext.trans {A B C D' E F : Hp} (x : Ext A B C D') (y : Ext C D' E F) : Ext A B E F :=
  ⟨x.f.trans y.f, x.h.trans y.h, y.i, fun p h => by
    rcases y.n p h with z | z
    · exact x.n p z
    · exact .inr (x.h.free z)⟩
theorem sqT_mono {K : PySem.W.Frag} {H H' : Hp} {a : Addr} {xs : List V} (e : Same H H') (h : SqT K H a xs) : SqT K H' a xs := by
  rcases h with (h | ⟨o, h⟩) | h
  · exact .inl (.inl (e _ _ h))
  · exact .inl (.inr ⟨o, e _ _ h⟩)
  · exact .inr h
mutual
theorem dp_mono {K : PySem.W.Frag} {H H' : Hp} (e : Same H H') : ∀ {d : D} {v : V}, Dp K H v d → Dp K H' v d
  | .none, _, h => by cases h; exact .non
  | .bool b, _, h => by cases h; exact .bl b
  | .int i, _, h => by cases h; exact .int i
  | .str x, _, h => by cases h; exact .str x
  | .list ds, _, h => by
    cases h with
    | lst h1 h2 => exact .lst (e.seq h1) (dpAll_mono e h2)
  | .tuple ds, _, h => by
    cases h with
    | tup h1 h2 => exact .tup (sqT_mono e h1) (dpAll_mono e h2)
  | .dict _, _, h => by cases h
theorem dpAll_mono {K : PySem.W.Frag} {H H' : Hp} (e : Same H H') : ∀ {ds : List D} {vs : List V}, DpAll K H vs ds → DpAll K H' vs ds
  | [], _, h => by cases h; exact .nil
  | d :: ds, _, h => by
    cases h with
    | cons h1 h2 => exact .cons (dp_mono e h1) (dpAll_mono e h2)
end
theorem dpAll_len {K : PySem.W.Frag} {H : Hp} : ∀ {vs : List V} {ds : List D}, DpAll K H vs ds → vs.length = ds.length
  | _, _, .nil => rfl
  | _, _, .cons _ t => by simp [dpAll_len t]
theorem dpAll_get {K : PySem.W.Frag} {H : Hp} : ∀ {vs : List V} {ds : List D} {i : Nat} {d : D}, DpAll K H vs ds → ds[i]? = some d → ∃ v, vs[i]? = some v ∧ Dp K H v d
  | _, _, _, _, .nil, e => by simp at e
  | _, _, 0, _, .cons r _, e => by simp at e; subst e; exact ⟨_, rfl, r⟩
  | _, _, i + 1, _, .cons _ t, e => by
    obtain ⟨v, h1, h2⟩ := dpAll_get (i := i) t (by simpa using e)
    exact ⟨v, by simpa using h1, h2⟩
theorem dpAll_getV {K : PySem.W.Frag} {H : Hp} : ∀ {vs : List V} {ds : List D} {i : Nat} {v : V}, DpAll K H vs ds → vs[i]? = some v → ∃ d, ds[i]? = some d ∧ Dp K H v d
  | _, _, _, _, .nil, e => by simp at e
  | _, _, 0, _, .cons r _, e => by simp at e; subst e; exact ⟨_, rfl, r⟩
  | _, _, i + 1, _, .cons _ t, e => by
    obtain ⟨v, h1, h2⟩ := dpAll_getV (i := i) t (by simpa using e)
    exact ⟨v, by simpa using h1, h2⟩
theorem dpAll_append {K : PySem.W.Frag} {H : Hp} : ∀ {vs ws : List V} {ds es : List D}, DpAll K H vs ds → DpAll K H ws es → DpAll K H (vs ++ ws) (ds ++ es)
  | _, _, _, _, .nil, s => s
  | _, _, _, _, .cons r t, s => .cons r (dpAll_append t s)
theorem dpAll_take {K : PySem.W.Frag} {H : Hp} : ∀ {vs : List V} {ds : List D} (n : Nat), DpAll K H vs ds → DpAll K H (vs.take n) (ds.take n)
  | _, _, 0, _ => .nil
  | _, _, _ + 1, .nil => .nil
  | _, _, n + 1, .cons r t => .cons r (dpAll_take n t)
theorem dpAll_drop {K : PySem.W.Frag} {H : Hp} : ∀ {vs : List V} {ds : List D} (n : Nat), DpAll K H vs ds → DpAll K H (vs.drop n) (ds.drop n)
  | _, _, 0, r => r
  | _, _, _ + 1, .nil => .nil
  | _, _, n + 1, .cons _ t => dpAll_drop n t
theorem dpAll_set {K : PySem.W.Frag} {H : Hp} {v : V} {d : D} (r : Dp K H v d) : ∀ {vs : List V} {ds : List D} (i : Nat), DpAll K H vs ds → DpAll K H (vs.set i v) (ds.set i d)
  | _, _, _, .nil => .nil
  | _, _, 0, .cons _ t => .cons r t
  | _, _, i + 1, .cons q t => .cons q (dpAll_set r i t)
theorem dpAll_ints {K : PySem.W.Frag} {H : Hp} : ∀ ns : List Int, DpAll K H (ns.map V.int) (ns.map PyData.int)
  | [] => .nil
  | n :: r => .cons (.int n) (dpAll_ints r)
theorem upd_grow {H : Hp} {p : Addr} {o : HO} (h : H p = none) : Same H (upd H p o) := fun b x e => by
  rw [upd_ne (ne_of_none e h)]
  exact e
theorem upd_both {Hf H : Hp} {p : Addr} {o : HO} (i : Same Hf H) : Same (upd Hf p o) (upd H p o) := fun b x e => by
  by_cases hb : b = p
  · subst hb; rw [upd_same] at e ⊢; exact e
  · rw [upd_ne hb] at e ⊢; exact i _ _ e

/-! ### what a value is worth -/
def DpKV (K : PySem.W.Frag) (Hf : Hp) : List (Key × V) → List (Key × D) → Prop := Paired fun a b => a.1 = b.1 ∧ Dp K Hf a.2 b.2
/-- the written part, and the exception that an except suite holds: where it lies, its own dict, its fields' names -/
structure Exi where
  n : Nat
  a : Addr
  d : Option (Addr × List Str)
structure Kx where
  k : PySem.W.Frag
  x : Exi
  w : World
instance : Coe Kx PySem.W.Frag := ⟨Kx.k⟩
/-- what the held exception's fields are -/
def ExFs (K : Kx) (Hf H : Hp) (as : List D) : Prop := match K.x.d with
  | none => as = []
  | some (d, fs) => ∃ vs, H d = some (.xd (fs.zip vs)) ∧ fs.length = vs.length ∧ DpAll K.k Hf vs as
theorem ExFs.grow {K : Kx} {Hf H Hf' H' : Hp} {as : List D} (x : Ext Hf H Hf' H') (h : ExFs K Hf H as) : ExFs K Hf' H' as := by
  unfold ExFs at h ⊢
  split at h
  · exact h
  · obtain ⟨vs, h1, h2, h3⟩ := h
    exact ⟨vs, x.h _ _ h1, h2, dpAll_mono x.f h3⟩
/-- a list is written anew -/
theorem ExFs.upd {K : Kx} {Hf H : Hp} {as : List D} {p : Addr} {xs ys : List V} (hp : H p = some (.lst xs)) (h : ExFs K Hf H as) : ExFs K Hf (upd H p (.lst ys)) as := by
  unfold ExFs at h ⊢
  split at h
  · exact h
  · obtain ⟨vs, h1, h2, h3⟩ := h
    exact ⟨vs, by rw [upd_ne (fun z => by subst z; rw [hp] at h1; cases h1)]; exact h1, h2, h3⟩
theorem ExFs.thaw {K : Kx} {Hf Hf' H : Hp} {as : List D} (f : Same Hf Hf') (h : ExFs K Hf H as) : ExFs K Hf' H as := by
  unfold ExFs at h ⊢
  split at h
  · exact h
  · obtain ⟨vs, h1, h2, h3⟩ := h
    exact ⟨vs, h1, h2, dpAll_mono f h3⟩
/-- an entry of a dict keyed by tuples -/
def KdR (K : PySem.W.Frag) (Hf : Hp) (x : NestedKey × Addr × V) (kv : NestedKey × D) : Prop := x.1 = kv.1 ∧ KeyH K Hf x.1 x.2.1 ∧ Dp K Hf x.2.2 kv.2
theorem kdr_mono {K : PySem.W.Frag} {Hf Hf' : Hp} (e : Same Hf Hf') {xs : KX} {kvs : List (NestedKey × D)} (h : Paired (KdR K Hf) xs kvs) : Paired (KdR K Hf') xs kvs := Paired.mapP h fun _ _ q => ⟨q.1, ⟨dp_mono e q.2.1.1, q.2.1.2⟩, dp_mono e q.2.2⟩
/-- the fields of an own instance -/
def FsR (K : PySem.W.Frag) (Hf : Hp) : List (Str × V) → List (Str × D) → Prop := Paired fun a b => a.1 = b.1 ∧ Dp K Hf a.2 b.2
theorem fsr_mono {K : PySem.W.Frag} {Hf Hf' : Hp} (e : Same Hf Hf') {us : List (Str × V)} {fs : List (Str × D)} (h : FsR K Hf us fs) : FsR K Hf' us fs := Paired.mapP h fun _ _ q => ⟨q.1, dp_mono e q.2⟩
def RepR (K : Kx) (Hf H : Hp) (v : V) : SV → Prop
  | .d x => Dp K Hf v x
  | .ol xs => ∃ p vs, v = .ref p ∧ H p = some (.lst vs) ∧ Hf p = none ∧ DpAll K Hf vs xs
  | .od kvs => ∃ p kws, v = .ref p ∧ H p = some (.dK kws) ∧ Hf p = none ∧ DpKV K Hf kws kvs
  | .pin xs => ∃ p vs, v = .ref p ∧ H p = some (.lst vs) ∧ Hf p = none ∧ DpAll K Hf vs xs
  | .exn n as => n = K.x.n ∧ v = .ref K.x.a ∧ ExFs K Hf H as
  | .pd kvs => ∃ p kws o, v = .ref p ∧ Hf p = some (.frz o (.dK kws)) ∧ DpKV K Hf kws kvs
  | .kd kvs => ∃ p ep xs, v = .ref p ∧ H p = some (kdx K.w p ep xs) ∧ Hf p = none ∧ Paired (KdR K Hf) xs kvs
  | .sk kvs => ∃ p ep xs, v = .ref p ∧ Hf p = some (kdx K.w p ep xs) ∧ Paired (KdR K Hf) xs kvs
  | .sd kvs => ∃ p kws, v = .ref p ∧ Hf p = some (.dK kws) ∧ DpKV K Hf kws kvs
  | .so C fs => ∃ p dx us, v = .ref p ∧ Hf p = some (.ins C dx us) ∧ FsR K Hf us fs
  | .oi C fs => ∃ p dx us, v = .ref p ∧ H p = some (.ins C dx us) ∧ Hf p = none ∧ FsR K Hf us fs
theorem Ext.still {Hf H Hf' H' : Hp} {p : Addr} {o : HO} (x : Ext Hf H Hf' H') (h1 : H p = some o) (h2 : Hf p = none) : Hf' p = none := by
  cases q : Hf' p with
  | none => rfl
  | some o' =>
    rcases x.n p (by rw [q]; exact fun z => nomatch z) with z | z
    · exact absurd h2 z
    · rw [h1] at z; cases z
theorem RepR.grow {K : Kx} {Hf H Hf' H' : Hp} {v : V} (x : Ext Hf H Hf' H') : ∀ {r : SV}, RepR K Hf H v r → RepR K Hf' H' v r
  | .d _, h => dp_mono x.f h
  | .ol _, ⟨p, vs, e, h1, h2, h3⟩ => ⟨p, vs, e, x.h _ _ h1, x.still h1 h2, dpAll_mono x.f h3⟩
  | .od _, ⟨p, vs, e, h1, h2, h3⟩ => ⟨p, vs, e, x.h _ _ h1, x.still h1 h2, Paired.mapP h3 fun _ _ q => ⟨q.1, dp_mono x.f q.2⟩⟩
  | .pin _, ⟨p, vs, e, h1, h2, h3⟩ => ⟨p, vs, e, x.h _ _ h1, x.still h1 h2, dpAll_mono x.f h3⟩
  | .exn _ _, ⟨n, e, h⟩ => ⟨n, e, h.grow x⟩
  | .pd _, ⟨p, vs, o, e, h1, h3⟩ => ⟨p, vs, o, e, x.f _ _ h1, Paired.mapP h3 fun _ _ q => ⟨q.1, dp_mono x.f q.2⟩⟩
  | .kd _, ⟨p, ep, vs, e, h1, h2, h3⟩ => ⟨p, ep, vs, e, x.h _ _ h1, x.still h1 h2, kdr_mono x.f h3⟩
  | .sk _, ⟨p, ep, vs, e, h1, h3⟩ => ⟨p, ep, vs, e, x.f _ _ h1, kdr_mono x.f h3⟩
  | .sd _, ⟨p, vs, e, h1, h3⟩ => ⟨p, vs, e, x.f _ _ h1, Paired.mapP h3 fun _ _ q => ⟨q.1, dp_mono x.f q.2⟩⟩
  | .so _ _, ⟨p, dx, vs, e, h1, h3⟩ => ⟨p, dx, vs, e, x.f _ _ h1, fsr_mono x.f h3⟩
  | .oi _ _, ⟨p, dx, vs, e, h1, h2, h3⟩ => ⟨p, dx, vs, e, x.h _ _ h1, x.still h1 h2, fsr_mono x.f h3⟩

/-- where a frame began: the shared heap, and where its pinned lists lie -/
structure Bs where
  h : Hp
  fx : Nat → V
instance : Coe Bs Hp := ⟨Bs.h⟩
structure EnvOk (K : Kx) (B : Bs) (H0 Hf H : Hp) (σ : L2.St) (ρ : En) : Prop where
  ext : Ext B.h H0 Hf H
  len : σ.length = ρ.length
  sl : ∀ (i : Nat) (r : SV), ρ[i]? = some (some r) → ∃ v, σ[i]? = some (some v) ∧ RepR K Hf H v r
  new : ∀ (i : Nat) (r : SV) (p : Addr), ρ[i]? = some (some r) → r.own = true → σ[i]? = some (some (.ref p)) → H0 p = none
  sep : ∀ (i j : Nat) (ri rj : SV) (p : Addr), ρ[i]? = some (some ri) → ri.own = true → ρ[j]? = some (some rj) → rj.own = true → σ[i]? = some (some (.ref p)) → σ[j]? = some (some (.ref p)) → i = j
  pin : ∀ (i : Nat) (xs : List D), ρ[i]? = some (some (.pin xs)) → ∃ p o, B.fx i = .ref p ∧ σ[i]? = some (some (.ref p)) ∧ H0 p = some o ∧ B.h p = none
theorem EnvOk.i {K : Kx} {B : Bs} {H0 Hf H : Hp} {σ : L2.St} {ρ : En} (I : EnvOk K B H0 Hf H σ ρ) : Same Hf H := I.ext.i
theorem EnvOk.grow {K : Kx} {B : Bs} {H0 Hf H Hf' H' : Hp} {σ : L2.St} {ρ : En} (I : EnvOk K B H0 Hf H σ ρ) (x : Ext Hf H Hf' H') : EnvOk K B H0 Hf' H' σ ρ :=
  ⟨I.ext.trans x, I.len, fun i r e => let ⟨v, h1, h2⟩ := I.sl i r e; ⟨v, h1, h2.grow x⟩, I.new, I.sep, I.pin⟩

/-! ### outcomes -/
structure Ct where
  K : Kx
  cm : Nat → Addr × List Str
  E : XK
def ExRep (c : Ct) (Hf H : Hp) (n : Nat) (od : Option Addr) (as : List D) : Prop :=
  match od with
  | none => as = [] ∧ (c.cm n).2 = []
  | some d => (c.cm n).2 ≠ [] ∧ ∃ vs, H d = some (.xd ((c.cm n).2.zip vs)) ∧ (c.cm n).2.length = vs.length ∧ DpAll c.K Hf vs as
def ExW (c : Ct) (Hf H : Hp) (n : Nat) (as : List D) : Prop := ∀ Hf' H' od, Ext Hf H Hf' H' → ExRep c Hf' H' n od as → c.E (.ref (c.cm n).1) od H'
theorem ExW.grow {c : Ct} {Hf H Hf' H' : Hp} {n : Nat} {as : List D} (h : ExW c Hf H n as) (x : Ext Hf H Hf' H') : ExW c Hf' H' n as := fun _ _ od y r => h _ _ od (x.trans y) r
/-- an answer of any kind: ok a is told by G -/
def Out {α : Type} (c : Ct) (Hf H : Hp) (x : R α) (G : α → Prop) : Prop := match x with
  | .ok a => G a
  | .ex n as => ExW c Hf H n as
  | .bad => False
def GE (c : Ct) (b : Bool) (Hf H : Hp) (Q : VK) (r : SV) : Prop := ∀ v Hf' H', Ext Hf H Hf' H' → RepR c.K Hf' H' v r → (b = true → r.own = true → ∀ p, v = .ref p → H p = none) → Q v H'
def GT (Hf H : Hp) (Q : Bool → Hp → Prop) (b : Bool) : Prop := ∀ Hf' H', Ext Hf H Hf' H' → Q b H'
def GA (c : Ct) (Hf H : Hp) (Q : List V → Hp → Prop) (ds : List D) : Prop := ∀ vs Hf' H', Ext Hf H Hf' H' → DpAll c.K Hf' vs ds → Q vs H'
theorem GE.grow {c : Ct} {b : Bool} {Hf H Hf' H' : Hp} {Q : VK} {r : SV} (h : GE c b Hf H Q r) (x : Ext Hf H Hf' H') : GE c b Hf' H' Q r :=
  fun v _ _ y q f => h v _ _ (x.trans y) q fun hb ho p e => x.h.free (f hb ho p e)
theorem GT.grow {Hf H Hf' H' : Hp} {Q : Bool → Hp → Prop} {b : Bool} (h : GT Hf H Q b) (x : Ext Hf H Hf' H') : GT Hf' H' Q b := fun _ _ y => h _ _ (x.trans y)
theorem GA.grow {c : Ct} {Hf H Hf' H' : Hp} {Q : List V → Hp → Prop} {ds : List D} (h : GA c Hf H Q ds) (x : Ext Hf H Hf' H') : GA c Hf' H' Q ds := fun vs _ _ y q => h vs _ _ (x.trans y) q
theorem Out.mono {α : Type} {c : Ct} {Hf H : Hp} {x : R α} {G G' : α → Prop} (h : Out c Hf H x G) (k : ∀ a, x = .ok a → G a → G' a) : Out c Hf H x G' := by
  cases x with
  | ok a => exact k a rfl h
  | ex n as => exact h
  | bad => exact h
theorem Out.grow {α : Type} {c : Ct} {Hf H Hf' H' : Hp} {x : R α} {G G' : α → Prop} (h : Out c Hf H x G) (e : Ext Hf H Hf' H') (k : ∀ a, G a → G' a) : Out c Hf' H' x G' := by
  cases x with
  | ok a => exact k a h
  | ex n as => exact ExW.grow h e
  | bad => exact h
/-- two steps: the first one's answer is handed on -/
theorem Out.bind {α β : Type} {c : Ct} {Hf H : Hp} {x : R α} {k : α → R β} {G : β → Prop} {G1 : α → Prop} (h : Out c Hf H (x >>= k) G) (hk : ∀ a, x = .ok a → Out c Hf H (k a) G → G1 a) : Out c Hf H x G1 := by
  cases x with
  | ok a => exact hk a rfl h
  | ex n as => exact h
  | bad => exact h

/-! ### the meaning of readings -/
def SemE (c : Ct) (b : Bool) (t : TE) (f : En → R SV) : Prop := ∀ B H0 Hf H σ ρ Q, EnvOk c.K B H0 Hf H σ ρ → Out c Hf H (f ρ) (GE c b Hf H Q) → t σ H Q
def SemT (c : Ct) (t : TT) (f : En → R Bool) : Prop := ∀ B H0 Hf H σ ρ Q, EnvOk c.K B H0 Hf H σ ρ → Out c Hf H (f ρ) (GT Hf H Q) → t σ H Q
def SemA (c : Ct) (t : TA) (f : En → R (List D)) : Prop := ∀ B H0 Hf H σ ρ Q, EnvOk c.K B H0 Hf H σ ρ → Out c Hf H (f ρ) (GA c Hf H Q) → t σ H Q
/-- arguments that are only looked at -/
inductive RepRs (K : Kx) (Hf H : Hp) : List V → List SV → Prop
  | nil : RepRs K Hf H [] []
  | cons {v : V} {vs : List V} {r : SV} {rs : List SV} : RepR K Hf H v r → RepRs K Hf H vs rs → RepRs K Hf H (v :: vs) (r :: rs)
theorem RepRs.grow {K : Kx} {Hf H Hf' H' : Hp} (x : Ext Hf H Hf' H') : ∀ {vs : List V} {rs : List SV}, RepRs K Hf H vs rs → RepRs K Hf' H' vs rs
  | _, _, .nil => .nil
  | _, _, .cons a b => .cons (a.grow x) (RepRs.grow x b)
def GB (c : Ct) (Hf H : Hp) (Q : List V → Hp → Prop) (rs : List SV) : Prop := ∀ vs Hf' H', Ext Hf H Hf' H' → RepRs c.K Hf' H' vs rs → Q vs H'
def SemB (c : Ct) (t : TA) (f : En → R (List SV)) : Prop := ∀ B H0 Hf H σ ρ Q, EnvOk c.K B H0 Hf H σ ρ → Out c Hf H (f ρ) (GB c Hf H Q) → t σ H Q

def GS (c : Ct) (B : Bs) (H0 : Hp) (Dn : Ends) : Fl → Prop
  | .nx ρ => ∀ Hf H σ, EnvOk c.K B H0 Hf H σ ρ → Dn.nx σ H
  | .bk ρ => ∀ Hf H σ, EnvOk c.K B H0 Hf H σ ρ → Dn.bk σ H
  | .ct ρ => ∀ Hf H σ, EnvOk c.K B H0 Hf H σ ρ → Dn.ct σ H
  | .rt r => ∀ v Hf H, Ext B.h H0 Hf H → RepR c.K Hf H v r → (r.own = true → ∀ p, v = .ref p → H0 p = none) → Dn.rt v H
def SemS (c : Ct) (t : TS) (f : En → R Fl) : Prop := ∀ B H0 Hf H σ ρ Dn, EnvOk c.K B H0 Hf H σ ρ → Out c B H0 (f ρ) (GS c B H0 Dn) → t Dn σ H
/-- a statement's outcome is told from the entry on; an expression's from here -/
theorem Out.here {α : Type} {c : Ct} {B H0 Hf H : Hp} {x : R α} {G : α → Prop} (h : Out c B H0 x G) (e : Ext B H0 Hf H) : Out c Hf H x G := h.grow e fun _ g => g

/-! ### names, constants -/
def datS : SV → R D
  | .d x => .ok x
  | .ol xs => .ok (.list xs)
  | .od _ => .bad
  | .pin _ => .bad
  | .exn _ _ => .bad
  | .pd _ => .bad
  | .kd _ => .bad
  | .sk _ => .bad
  | .sd _ => .bad
  | .so _ _ => .bad
  | .oi _ _ => .bad
/-- a slot's value, to be handed on -/
def getV (i : Nat) (ρ : En) : R SV := match ρ[i]? with
  | some (some (.d x)) => .ok (.d x)
  | some (some (.sk x)) => .ok (.sk x)
  | some (some (.sd x)) => .ok (.sd x)
  | some (some (.so C x)) => .ok (.so C x)
  | _ => .bad
/-- .. to be looked at -/
def peek (i : Nat) (ρ : En) : R SV := match ρ[i]? with
  | some (some r) => .ok r
  | _ => .bad
theorem sem_var {c : Ct} {i : Nat} : SemE c true (tVar i) (getV i) := by
  intro B H0 Hf H σ ρ Q I h
  unfold getV at h
  split at h
  · rename_i x e
    obtain ⟨v, h1, h2⟩ := I.sl i _ e
    exact ⟨v, h1, h v Hf H (.refl I.i) h2 fun _ z => nomatch z⟩
  · rename_i x e
    obtain ⟨v, h1, h2⟩ := I.sl i _ e
    exact ⟨v, h1, h v Hf H (.refl I.i) h2 fun _ z => nomatch z⟩
  · rename_i x e
    obtain ⟨v, h1, h2⟩ := I.sl i _ e
    exact ⟨v, h1, h v Hf H (.refl I.i) h2 fun _ z => nomatch z⟩
  · rename_i C x e
    obtain ⟨v, h1, h2⟩ := I.sl i _ e
    exact ⟨v, h1, h v Hf H (.refl I.i) h2 fun _ z => nomatch z⟩
  · exact h.elim
theorem sem_peek {c : Ct} {i : Nat} : SemE c false (tVar i) (peek i) := by
  intro B H0 Hf H σ ρ Q I h
  unfold peek at h
  split at h
  · rename_i x e
    obtain ⟨v, h1, h2⟩ := I.sl i _ e
    exact ⟨v, h1, h v Hf H (.refl I.i) h2 fun z => nomatch z⟩
  · exact h.elim
theorem SemE.look {c : Ct} {t : TE} {f : En → R SV} (h : SemE c true t f) : SemE c false t f := fun B H0 Hf H σ ρ Q I o =>
  h B H0 Hf H σ ρ Q I (o.mono fun _ _ g v Hf' H' x q _ => g v Hf' H' x q fun z => nomatch z)
theorem sem_con {c : Ct} {b : Bool} {v : V} {d : D} (h : ∀ Hf, Dp c.K Hf v d) : SemE c b (tC v) fun _ => .ok (.d d) := fun B H0 Hf H σ ρ Q I o => o v Hf H (.refl I.i) (h Hf) fun _ z => nomatch z
theorem sem_int {c : Ct} {b : Bool} {i : Int} : SemE c b (tC (.int i)) fun _ => .ok (.d (.int i)) := sem_con fun _ => .int i
theorem sem_bl {c : Ct} {b : Bool} {i : Bool} : SemE c b (tC (.bl i)) fun _ => .ok (.d (.bool i)) := sem_con fun _ => .bl i
theorem sem_str {c : Ct} {b : Bool} {i : Str} : SemE c b (tC (.str i)) fun _ => .ok (.d (.str i)) := sem_con fun _ => .str i
theorem sem_non {c : Ct} {b : Bool} : SemE c b (tC .non) fun _ => .ok (.d .none) := sem_con fun _ => .non
/-- freezing a fresh answer -/
theorem froze {c : Ct} {Hf H Hf' H' : Hp} {v : V} {r : SV} {d : D} (x : Ext Hf H Hf' H') (q : RepR c.K Hf' H' v r) (fr : r.own = true → ∀ p, v = .ref p → H p = none) (e : datS r = .ok d) :
    ∃ Hf2, Ext Hf H Hf2 H' ∧ Dp c.K Hf2 v d := by
  cases r with
  | d y => cases e; exact ⟨Hf', x, q⟩
  | ol xs =>
    cases e
    obtain ⟨p, vs, rfl, h1, h2, h3⟩ := q
    have g := upd_grow (o := .lst vs) h2
    refine ⟨upd Hf' p (.lst vs), ⟨x.f.trans g, x.h, fun b o e => ?_, fun b e => ?_⟩, .lst (.inl (.inl upd_same)) (dpAll_mono g h3)⟩
    · by_cases hb : b = p
      · subst hb; rw [upd_same] at e; cases e; exact h1
      · rw [upd_ne hb] at e; exact x.i _ _ e
    · by_cases hb : b = p
      · subst hb; exact .inr (fr rfl _ rfl)
      · rw [upd_ne hb] at e; exact x.n b e
  | od kvs => cases e
  | pin kvs => cases e
  | exn n as => cases e
  | pd kvs => cases e
  | kd kvs => cases e
  | sk kvs => cases e
  | sd kvs => cases e
  | so C fs => cases e
  | oi C fs => cases e
/-- what is looked at stands in the heap -/
theorem looked {c : Ct} {Hf H : Hp} {v : V} {r : SV} {d : D} (i : Same Hf H) (q : RepR c.K Hf H v r) (e : datS r = .ok d) : Dp c.K H v d := by
  cases r with
  | d y => cases e; exact dp_mono i q
  | ol xs =>
    cases e
    obtain ⟨p, vs, rfl, h1, h2, h3⟩ := q
    exact .lst (.inl (.inl h1)) (dpAll_mono i h3)
  | od kvs => cases e
  | pin kvs => cases e
  | exn n as => cases e
  | pd kvs => cases e
  | kd kvs => cases e
  | sk kvs => cases e
  | sd kvs => cases e
  | so C fs => cases e
  | oi C fs => cases e

/-! ### combinators (plain functions of the slots) -/
def bin (g : SV → SV → R SV) (fa fb : En → R SV) : En → R SV := fun ρ => fa ρ >>= fun a => fb ρ >>= fun b => g a b
def una (g : SV → R SV) (fa : En → R SV) : En → R SV := fun ρ => fa ρ >>= g
def kon (d : D) : En → R SV := fun _ => .ok (.d d)
/-! ### operators of two -/
def R2ok (c : Ct) (r : R2) (g : SV → SV → R SV) : Prop := ∀ Hf H x y rx ry Q, Same Hf H → RepR c.K Hf H x rx → RepR c.K Hf H y ry → Out c Hf H (g rx ry) (GE c true Hf H Q) → r x y H Q
theorem R2ok.or {c : Ct} {r r' : R2} {g g' : SV → SV → R SV} (h : R2ok c r g) (h' : R2ok c r' g') : R2ok c (fun x y H Q => r x y H Q ∨ r' x y H Q) (fun a b => match g a b with | .bad => g' a b | z => z) := by
  intro Hf H x y rx ry Q i hx hy o
  cases e : g rx ry with
  | bad => simp only [e] at o; exact .inr (h' Hf H x y rx ry Q i hx hy o)
  | ok a => simp only [e] at o; exact .inl (h Hf H x y rx ry Q i hx hy (by rw [e]; exact o))
  | ex n as => simp only [e] at o; exact .inl (h Hf H x y rx ry Q i hx hy (by rw [e]; exact o))
theorem OpR.or {X : Cx} {f : Value → Value → Sem Value} {r r' : R2} (h : OpR X f r) (h' : OpR X f r') : OpR X f (fun x y H Q => r x y H Q ∨ r' x y H Q) := fun pins s σ H x y v u Q I rx ry q => q.elim (fun z => h pins s σ H x y v u Q I rx ry z) fun z => h' pins s σ H x y v u Q I rx ry z
theorem sem_bin {c : Ct} {r : R2} {g : SV → SV → R SV} {ta tb : TE} {fa fb : En → R SV} (hr : R2ok c r g) (ha : SemE c false ta fa) (hb : SemE c false tb fb) :
    SemE c true (tOp r ta tb) (bin g fa fb) := by
  intro B H0 Hf H σ ρ Q I o
  refine ha B H0 Hf H σ ρ _ I (Out.bind o fun a ea o1 => fun v Hf1 H1 x1 q1 _ => ?_)
  refine hb B H0 Hf1 H1 σ ρ _ (I.grow x1) (Out.bind (o1.grow x1 fun _ z => z) fun b eb o2 => fun u Hf2 H2 x2 q2 _ => ?_)
  exact hr Hf2 H2 v u a b Q x2.i (q1.grow x2) q2 (o2.grow x2 fun _ g => (g.grow x1).grow x2)
def int1 : SV → R Int
  | .d (.int i) => .ok i
  | _ => .bad
theorem int1_ok {K : Kx} {Hf H : Hp} {v : V} {r : SV} {i : Int} (q : RepR K Hf H v r) (e : int1 r = .ok i) : v = .int i := by
  unfold int1 at e
  split at e
  · cases e; cases q; rfl
  · cases e
theorem GE.now {c : Ct} {b : Bool} {Hf H : Hp} {Q : VK} {v : V} {d : D} (h : GE c b Hf H Q (.d d)) (i : Same Hf H) (q : Dp c.K Hf v d) : Q v H := h v Hf H (.refl i) q fun _ z => nomatch z
end Pl
namespace Pl
open PySem PySem.Spec PyProof.Rows L2

theorem Ext.laid {Hf H : Hp} {p : Addr} {o : HO} (i : Same Hf H) (h : H p = none) : Ext Hf H (upd Hf p o) (upd H p o) :=
  ⟨upd_grow (i.free h), upd_grow h, upd_both i, fun b e => by
    by_cases hb : b = p
    · subst hb; exact .inr h
    · rw [upd_ne hb] at e; exact .inl e⟩
theorem Ext.fresh {Hf H : Hp} {p : Addr} {o : HO} (i : Same Hf H) (h : H p = none) : Ext Hf H Hf (upd H p o) :=
  ⟨.refl _, upd_grow h, i.trans (upd_grow h), fun b e => .inl e⟩
/-- a new list is handed on -/
theorem GE.newL {c : Ct} {b : Bool} {Hf H : Hp} {Q : VK} {xs : List D} {vs : List V} {p : Addr} (h : GE c b Hf H Q (.ol xs)) (i : Same Hf H) (hp : H p = none) (q : DpAll c.K Hf vs xs) : Q (.ref p) (upd H p (.lst vs)) :=
  h _ Hf _ (.fresh i hp) ⟨p, vs, rfl, upd_same, i.free hp, q⟩ fun _ _ p' e => by cases e; exact hp
theorem GE.newT {c : Ct} {b : Bool} {Hf H : Hp} {Q : VK} {xs : List D} {vs : List V} {p : Addr} (h : GE c b Hf H Q (.d (.tuple xs))) (i : Same Hf H) (hp : H p = none) (q : DpAll c.K Hf vs xs) : Q (.ref p) (upd H p (.tup vs)) :=
  h _ _ _ (.laid i hp) (.tup (.inl (.inl upd_same)) (dpAll_mono (upd_grow (i.free hp)) q)) fun _ z => nomatch z
/-! ### arithmetic -/
def subS : SV → SV → R SV
  | .d (.int a), .d (.int b) => .ok (.d (.int (a - b)))
  | _, _ => .bad
def okM (j : Int) : Bool := Nat.blt j.natAbs 18446744073709551616
theorem okM_of {j : Int} (h0 : -1000000000000 ≤ j) (h1 : j ≤ 1000000000000) : okM j = true := by
  unfold okM Nat.blt
  rw [Nat.ble_eq]; omega
theorem okM_ok {j : Int} (h : okM j = true) : -(2 ^ 64) < j ∧ j < 2 ^ 64 := by
  unfold okM Nat.blt at h
  rw [Nat.ble_eq] at h
  omega
def mulS : SV → SV → R SV
  | .d (.int a), .d (.int b) => if (okM a || okM b) = true then .ok (.d (.int (a * b))) else .bad
  | _, _ => .bad
def modS : SV → SV → R SV
  | .d (.int a), .d (.int b) => if 0 < b then .ok (.d (.int (a % b))) else .bad
  | _, _ => .bad
def fdivS : SV → SV → R SV
  | .d (.int a), .d (.int b) => if 0 < b ∧ b < 1073741824 then .ok (.d (.int (a / b))) else .bad
  | _, _ => .bad
def powS : SV → SV → R SV
  | .d (.int a), .d (.int b) => if 0 ≤ b ∧ b ≤ 1000000 ∧ a.natAbs < 2 ^ 64 then .ok (.d (.int (a ^ b.toNat))) else .bad
  | _, _ => .bad
def ltS : SV → SV → R SV
  | .d (.int a), .d (.int b) => .ok (.d (.bool (decide (a < b))))
  | .d (.str a), .d (.str b) => .ok (.d (.bool (decide (a.cps.toList < b.cps.toList))))
  | _, _ => .bad
def leS : SV → SV → R SV
  | .d (.int a), .d (.int b) => .ok (.d (.bool (decide (a ≤ b))))
  | .d (.str a), .d (.str b) => .ok (.d (.bool (!decide (b.cps.toList < a.cps.toList))))
  | _, _ => .bad
def gtS : SV → SV → R SV
  | .d (.int a), .d (.int b) => .ok (.d (.bool (decide (b < a))))
  | .d (.str a), .d (.str b) => .ok (.d (.bool (decide (b.cps.toList < a.cps.toList))))
  | _, _ => .bad
def geS : SV → SV → R SV
  | .d (.int a), .d (.int b) => .ok (.d (.bool (decide (b ≤ a))))
  | .d (.str a), .d (.str b) => .ok (.d (.bool (!decide (a.cps.toList < b.cps.toList))))
  | _, _ => .bad
def negS : SV → R SV
  | .d (.int a) => .ok (.d (.int (-a)))
  | _ => .bad
section
variable {c : Ct}
theorem r2_sub : R2ok c (rI0 fun i j => .int (i - j)) subS := by
  intro Hf H x y rx ry Q i hx hy o
  unfold subS at o
  split at o
  · cases hx; cases hy; exact ⟨_, _, rfl, rfl, GE.now o i (.int _)⟩
  · exact o.elim
theorem r2_mul : R2ok c (rI CMul fun i j => .int (i * j)) mulS := by
  intro Hf H x y rx ry Q i hx hy o
  unfold mulS at o
  split at o
  · cases hx; cases hy
    split at o
    · rename_i h
      rcases Bool.or_eq_true_iff.mp h with h | h
      · exact ⟨_, _, rfl, rfl, .inl (okM_ok h), GE.now o i (.int _)⟩
      · exact ⟨_, _, rfl, rfl, .inr (okM_ok h), GE.now o i (.int _)⟩
    · exact o.elim
  · exact o.elim
theorem r2_mod : R2ok c (rI (fun _ j => 0 < j) fun i j => .int (i % j)) modS := by
  intro Hf H x y rx ry Q i hx hy o
  unfold modS at o
  split at o
  · cases hx; cases hy
    split at o
    · rename_i h; exact ⟨_, _, rfl, rfl, h, GE.now o i (.int _)⟩
    · exact o.elim
  · exact o.elim
theorem r2_fdiv : R2ok c (rI CDiv fun i j => .int (i / j)) fdivS := by
  intro Hf H x y rx ry Q i hx hy o
  unfold fdivS at o
  split at o
  · cases hx; cases hy
    split at o
    · rename_i h; exact ⟨_, _, rfl, rfl, h, GE.now o i (.int _)⟩
    · exact o.elim
  · exact o.elim
theorem r2_pow : R2ok c (rI CPow fun i j => .int (i ^ j.toNat)) powS := by
  intro Hf H x y rx ry Q i hx hy o
  unfold powS at o
  split at o
  · cases hx; cases hy
    split at o
    · rename_i h; exact ⟨_, _, rfl, rfl, h, GE.now o i (.int _)⟩
    · exact o.elim
  · exact o.elim
abbrev rLt : R2 := fun x y H Q => rI0 (fun i j => .bl (decide (i < j))) x y H Q ∨ ∃ i j, x = .str i ∧ y = .str j ∧ Q (.bl (decide (i.cps.toList < j.cps.toList))) H
abbrev rLe : R2 := fun x y H Q => rI0 (fun i j => .bl (decide (i ≤ j))) x y H Q ∨ ∃ i j, x = .str i ∧ y = .str j ∧ Q (.bl (!decide (j.cps.toList < i.cps.toList))) H
abbrev rGt : R2 := fun x y H Q => rI0 (fun i j => .bl (decide (j < i))) x y H Q ∨ ∃ i j, x = .str i ∧ y = .str j ∧ Q (.bl (decide (j.cps.toList < i.cps.toList))) H
abbrev rGe : R2 := fun x y H Q => rI0 (fun i j => .bl (decide (j ≤ i))) x y H Q ∨ ∃ i j, x = .str i ∧ y = .str j ∧ Q (.bl (!decide (i.cps.toList < j.cps.toList))) H
theorem o_lt {X : Cx} : OpR X (compareOp .Lt) rLt := Pl.OpR.or op_lt op_lt_str
theorem o_le {X : Cx} : OpR X (compareOp .LtE) rLe := Pl.OpR.or op_le op_le_str
theorem o_gt {X : Cx} : OpR X (compareOp .Gt) rGt := Pl.OpR.or op_gt op_gt_str
theorem o_ge {X : Cx} : OpR X (compareOp .GtE) rGe := Pl.OpR.or op_ge op_ge_str
theorem r2_lt : R2ok c rLt ltS := by
  intro Hf H x y rx ry Q i hx hy o
  unfold ltS at o
  split at o
  · cases hx; cases hy; exact .inl ⟨_, _, rfl, rfl, GE.now o i (.bl _)⟩
  · cases hx; cases hy; exact .inr ⟨_, _, rfl, rfl, GE.now o i (.bl _)⟩
  · exact o.elim
theorem r2_le : R2ok c rLe leS := by
  intro Hf H x y rx ry Q i hx hy o
  unfold leS at o
  split at o
  · cases hx; cases hy; exact .inl ⟨_, _, rfl, rfl, GE.now o i (.bl _)⟩
  · cases hx; cases hy; exact .inr ⟨_, _, rfl, rfl, GE.now o i (.bl _)⟩
  · exact o.elim
theorem r2_gt : R2ok c rGt gtS := by
  intro Hf H x y rx ry Q i hx hy o
  unfold gtS at o
  split at o
  · cases hx; cases hy; exact .inl ⟨_, _, rfl, rfl, GE.now o i (.bl _)⟩
  · cases hx; cases hy; exact .inr ⟨_, _, rfl, rfl, GE.now o i (.bl _)⟩
  · exact o.elim
theorem r2_ge : R2ok c rGe geS := by
  intro Hf H x y rx ry Q i hx hy o
  unfold geS at o
  split at o
  · cases hx; cases hy; exact .inl ⟨_, _, rfl, rfl, GE.now o i (.bl _)⟩
  · cases hx; cases hy; exact .inr ⟨_, _, rfl, rfl, GE.now o i (.bl _)⟩
  · exact o.elim
theorem sem_neg {ta : TE} {fa : En → R SV} (ha : SemE c false ta fa) : SemE c true (tUn (rU fun i => .int (-i)) ta) (una negS fa) := by
  intro B H0 Hf H σ ρ Q I o
  refine ha B H0 Hf H σ ρ _ I (Out.bind o fun a ea o1 => fun v Hf1 H1 x1 q1 _ => ?_)
  unfold negS at o1
  split at o1
  · cases q1; exact ⟨_, rfl, GE.now (GE.grow (show GE c true Hf H Q _ from o1) x1) x1.i (.int _)⟩
  · exact o1.elim
end

/-! ### + -/
/-- two lists, whatever they are -/
def rCatL (K : PySem.W.Frag) : R2 := fun x y H Q => ∃ l b xs zs, x = .ref l ∧ y = .ref b ∧ SqL K H l xs ∧ SqL K H b zs ∧ xs.length + zs.length ≤ sizeLine ∧ ∀ p, H p = none → Q (.ref p) (upd H p (.lst (xs ++ zs)))
def addS : SV → SV → R SV
  | .d (.int a), .d (.int b) => .ok (.d (.int (a + b)))
  | .d (.str a), .d (.str b) => if a.length + b.length ≤ sizeLine then .ok (.d (.str (a ++ b))) else .bad
  | .d (.tuple a), .d (.tuple b) => if a.length + b.length ≤ sizeLine then .ok (.d (.tuple (a ++ b))) else .bad
  | .d (.list a), .d (.list b) => if a.length + b.length ≤ sizeLine then .ok (.ol (a ++ b)) else .bad
  | .d (.list a), .ol b => if a.length + b.length ≤ sizeLine then .ok (.ol (a ++ b)) else .bad
  | .ol a, .d (.list b) => if a.length + b.length ≤ sizeLine then .ok (.ol (a ++ b)) else .bad
  | .ol a, .ol b => if a.length + b.length ≤ sizeLine then .ok (.ol (a ++ b)) else .bad
  | _, _ => .bad
theorem op_catL {X : Cx} : OpR X (binaryOp .Add) (rCatL X.K) := by
  intro pins s σ H x y v u Q I rx ry h
  obtain ⟨l, b, xs, zs, rfl, rfl, hH, hB, hz, q⟩ := h
  cases rx
  cases ry
  obtain ⟨its, r, p1, z⟩ := I.list hH
  obtain ⟨its2, r2, p2, z2⟩ := I.list hB
  obtain ⟨o, n, e, hc, hd, hdat⟩ := p1
  obtain ⟨o2, n2, e2, hc2, hd2, hdat2⟩ := p2
  have hl := r.length
  have hl2 := r2.length
  obtain ⟨oc, od, odt, osl⟩ := o
  obtain ⟨oc2, od2, odt2, osl2⟩ := o2
  simp only at hc hd hdat hc2 hd2 hdat2
  subst hc hd hdat hc2 hd2 hdat2
  have hz' : its.toArray.size + its2.toArray.size ≤ sizeLine := by rw [List.size_toArray, List.size_toArray]; omega
  have ea : its.toArray ++ its2.toArray = (its ++ its2).toArray := by simp
  refine concat_meets ⟨_, e, rfl⟩ ⟨_, e2, rfl⟩ noFill_list_add seq_list_add F.slot_list_add F.entry_list_add (F.args_list_add_2 _ _) (PyProof.Rows.list_addW l b its.toArray its2.toArray n n2 none none osl osl2 hz') ⟨e, e2, ?_⟩
  rw [ea]
  exact ⟨.ref _, _, I.lnew (t' := s.toks) (r.append r2) (by rw [List.length_append]; omega), rfl, q _ I.fresh⟩
/-- a list that is looked at -/
theorem rep_list {K : Kx} {Hf H : Hp} {v : V} {r : SV} {xs : List D} (i : Same Hf H) (q : RepR K Hf H v r) (e : r = .d (.list xs) ∨ r = .ol xs) : ∃ p vs, v = .ref p ∧ SqL K H p vs ∧ DpAll K Hf vs xs := by
  rcases e with rfl | rfl
  · cases q with
    | lst h1 h2 => exact ⟨_, _, rfl, i.seq h1, h2⟩
  · obtain ⟨p, vs, e, h1, h2, h3⟩ := q
    exact ⟨p, vs, e, .inl (.inl h1), h3⟩
theorem rep_tup {K : Kx} {Hf H : Hp} {v : V} {xs : List D} (i : Same Hf H) (q : RepR K Hf H v (.d (.tuple xs))) : ∃ p vs, v = .ref p ∧ SqT K H p vs ∧ SqT K Hf p vs ∧ DpAll K Hf vs xs := by
  cases q with
  | tup h1 h2 => exact ⟨_, _, rfl, sqT_mono i h1, h1, h2⟩
abbrev rAddA (K : PySem.W.Frag) : R2 := fun x y H Q => rI0 (fun i j => .int (i + j)) x y H Q ∨ ((∃ i j, x = .str i ∧ y = .str j ∧ i.length + j.length ≤ sizeLine ∧ Q (.str (i ++ j)) H) ∨ (rCatA K x y H Q ∨ rCatL K x y H Q))
theorem o_add {X : Cx} : OpR X (binaryOp .Add) (rAddA X.K) := Pl.OpR.or op_add (Pl.OpR.or op_add_str (Pl.OpR.or op_catA op_catL))
theorem r2_add {c : Ct} : R2ok c (rAddA c.K) addS := by
  intro Hf H x y rx ry Q i hx hy o
  have lists : ∀ a b, (rx = .d (.list a) ∨ rx = .ol a) → (ry = .d (.list b) ∨ ry = .ol b) → Out c Hf H (if a.length + b.length ≤ sizeLine then R.ok (SV.ol (a ++ b)) else R.bad) (GE c true Hf H Q) → rAddA c.K x y H Q := by
    intro a b e1 e2 o
    split at o
    · rename_i hz
      obtain ⟨p, vs, rfl, h1, h2⟩ := rep_list i hx e1
      obtain ⟨p2, vs2, rfl, h3, h4⟩ := rep_list i hy e2
      refine .inr (.inr (.inr ⟨_, _, _, _, rfl, rfl, h1, h3, ?_, fun p hp => GE.newL o i hp (dpAll_append h2 h4)⟩))
      rw [dpAll_len h2, dpAll_len h4]; exact hz
    · exact o.elim
  unfold addS at o
  split at o
  · cases hx; cases hy; exact .inl ⟨_, _, rfl, rfl, GE.now o i (.int _)⟩
  · cases hx; cases hy
    split at o
    · rename_i h; exact .inr (.inl ⟨_, _, rfl, rfl, h, GE.now o i (.str _)⟩)
    · exact o.elim
  · rename_i a b
    split at o
    · rename_i hz
      obtain ⟨p, vs, rfl, h1, h1f, h2⟩ := rep_tup i hx
      obtain ⟨p2, vs2, rfl, h3, h3f, h4⟩ := rep_tup i hy
      refine .inr (.inr (.inl ⟨_, _, _, _, rfl, rfl, h1, h3, ?_, fun e => ?_, fun _ e => ?_, fun _ _ p hp => GE.newT o i hp (dpAll_append h2 h4)⟩))
      · rw [dpAll_len h2, dpAll_len h4]; exact hz
      · subst e; cases h2
        exact GE.now o i (.tup h3f h4)
      · subst e; cases h4
        rw [List.append_nil] at o
        exact GE.now o i (.tup h1f h2)
    · exact o.elim
  · exact lists _ _ (.inl rfl) (.inl rfl) o
  · exact lists _ _ (.inl rfl) (.inr rfl) o
  · exact lists _ _ (.inr rfl) (.inl rfl) o
  · exact lists _ _ (.inr rfl) (.inr rfl) o
  · exact o.elim

/-! ### == and != -/
/-- data without dicts, of bounded depth; nothing is asked of a text -/
def shpD (d : D) : Bool := PyData.plain d && decide (PyData.depth d ≤ 60)
theorem shpD_of {d : D} (h : shpD d = true) : PyData.plain d = true ∧ PyData.depth d ≤ 60 := by
  unfold shpD at h
  rw [Bool.and_eq_true] at h
  exact ⟨h.1, of_decide_eq_true h.2⟩
section
variable {X : Cx}
def rEqP (K : PySem.W.Frag) : R2 := fun x y H Q => ∃ d e, Dp K H x d ∧ Dp K H y e ∧ shpD d = true ∧ shpD e = true ∧ Q (.bl (PyData.eqv d e)) H
def rNeP (K : PySem.W.Frag) : R2 := fun x y H Q => ∃ d e, Dp K H x d ∧ Dp K H y e ∧ shpD d = true ∧ shpD e = true ∧ Q (.bl (!PyData.eqv d e)) H
def rInP (K : PySem.W.Frag) : R2 := fun x y H Q => ∃ d xs, Dp K H x d ∧ Dp K H y (.list xs) ∧ shpD d = true ∧ shpD (.list xs) = true ∧ Q (.bl (xs.any fun z => PyData.eqv z d)) H
def rNotInP (K : PySem.W.Frag) : R2 := fun x y H Q => ∃ d xs, Dp K H x d ∧ Dp K H y (.list xs) ∧ shpD d = true ∧ shpD (.list xs) = true ∧ Q (.bl (!xs.any fun z => PyData.eqv z d)) H
theorem op_eqP (hu : X.A.units + 64 < cLine) : OpR X (compareOp .Eq) (rEqP X.K) := by
  intro pins s σ H x y v u Q I rx ry h
  obtain ⟨d, e, hd, he, sd, se, q⟩ := h
  obtain ⟨as, r1⟩ := Dp.reads I d x v hd rx
  obtain ⟨bs, r2⟩ := Dp.reads I e y u he ry
  have h1 := shpD_of sd
  have h2 := shpD_of se
  exact PySem.SeqAt.eq_plain r1 r2 h1.1 h2.1 (by omega) ⟨.bl _, H, I, rfl, q⟩
theorem op_neP (hu : X.A.units + 64 < cLine) : OpR X (compareOp .NotEq) (rNeP X.K) := by
  intro pins s σ H x y v u Q I rx ry h
  obtain ⟨d, e, hd, he, sd, se, q⟩ := h
  obtain ⟨as, r1⟩ := Dp.reads I d x v hd rx
  obtain ⟨bs, r2⟩ := Dp.reads I e y u he ry
  have h1 := shpD_of sd
  have h2 := shpD_of se
  exact PySem.SeqAt.ne_plain r1 r2 h1.1 h2.1 (by omega) ⟨.bl _, H, I, rfl, q⟩
theorem op_inP (hu : X.A.units + 65 < cLine) : OpR X (compareOp .In) (rInP X.K) := by
  intro pins s σ H x y v u Q I rx ry h
  obtain ⟨d, xs, hd, he, sd, se, q⟩ := h
  obtain ⟨as, r1⟩ := Dp.reads I d x v hd rx
  obtain ⟨bs, r2⟩ := Dp.reads I _ y u he ry
  have h1 := shpD_of sd
  have h2 := shpD_of se
  have h3 : PyData.plainAll xs = true := h2.1
  exact PySem.SeqAt.in_list_data r2 r1 h3 h1.1 (by omega) ⟨.bl _, H, I, rfl, q⟩
theorem op_notInP (hu : X.A.units + 65 < cLine) : OpR X (compareOp .NotIn) (rNotInP X.K) := by
  intro pins s σ H x y v u Q I rx ry h
  obtain ⟨d, xs, hd, he, sd, se, q⟩ := h
  obtain ⟨as, r1⟩ := Dp.reads I d x v hd rx
  obtain ⟨bs, r2⟩ := Dp.reads I _ y u he ry
  have h1 := shpD_of sd
  have h2 := shpD_of se
  have h3 : PyData.plainAll xs = true := h2.1
  exact PySem.SeqAt.notIn_list_data r2 r1 h3 h1.1 (by omega) ⟨.bl _, H, I, rfl, q⟩
end
def flat : D → Bool
  | .none | .bool _ | .int _ | .str _ => true
  | _ => false
def eqG (neg : Bool) (a b : SV) : R SV := datS a >>= fun x => datS b >>= fun y => if shpD x = true ∧ shpD y = true then .ok (.d (.bool (if neg then !PyData.eqv x y else PyData.eqv x y))) else .bad
def eqS (neg : Bool) (a b : SV) : R SV := match a, b with
  | .d (.int x), .d (.int y) => .ok (.d (.bool (if neg then !decide (x = y) else decide (x = y))))
  | .d (.str x), .d (.str y) => .ok (.d (.bool (if neg then !decide (x = y) else decide (x = y))))
  | .d (.bool x), .d (.bool y) => .ok (.d (.bool (if neg then !decide (x = y) else decide (x = y))))
  | .d .none, .d (.str _) => .ok (.d (.bool neg))
  | .d (.str _), .d .none => .ok (.d (.bool neg))
  | .d .none, .d .none => .ok (.d (.bool !neg))
  | a, b => eqG neg a b
abbrev rEqA (K : PySem.W.Frag) : R2 := fun x y H Q => rEq x y H Q ∨ rEqP K x y H Q
abbrev rNeA (K : PySem.W.Frag) : R2 := fun x y H Q => rNe x y H Q ∨ rNeP K x y H Q
theorem o_eq {X : Cx} (hu : X.A.units + 64 < cLine) : OpR X (compareOp .Eq) (rEqA X.K) := Pl.OpR.or op_eq (op_eqP hu)
theorem o_ne {X : Cx} (hu : X.A.units + 64 < cLine) : OpR X (compareOp .NotEq) (rNeA X.K) := Pl.OpR.or op_ne (op_neP hu)
theorem r2_eqG {c : Ct} : R2ok c (rEqP c.K) (eqG false) := by
  intro Hf H x y rx ry Q i hx hy o
  unfold eqG at o
  cases e1 : datS rx with
  | ok d =>
    cases e2 : datS ry with
    | ok e =>
      simp only [e1, e2, ok_bind] at o
      split at o
      · rename_i h; exact ⟨d, e, looked (c := c) i hx e1, looked (c := c) i hy e2, h.1, h.2, GE.now o i (.bl _)⟩
      · exact o.elim
    | ex n as => cases ry <;> cases e2
    | bad => simp only [e1, e2, ok_bind, bad_bind] at o; exact o.elim
  | ex n as => cases rx <;> cases e1
  | bad => simp only [e1, bad_bind] at o; exact o.elim
theorem r2_neG {c : Ct} : R2ok c (rNeP c.K) (eqG true) := by
  intro Hf H x y rx ry Q i hx hy o
  unfold eqG at o
  cases e1 : datS rx with
  | ok d =>
    cases e2 : datS ry with
    | ok e =>
      simp only [e1, e2, ok_bind] at o
      split at o
      · rename_i h; exact ⟨d, e, looked (c := c) i hx e1, looked (c := c) i hy e2, h.1, h.2, GE.now o i (.bl _)⟩
      · exact o.elim
    | ex n as => cases ry <;> cases e2
    | bad => simp only [e1, e2, ok_bind, bad_bind] at o; exact o.elim
  | ex n as => cases rx <;> cases e1
  | bad => simp only [e1, bad_bind] at o; exact o.elim
theorem dec_vi {x y : Int} : decide (V.int x = V.int y) = decide (x = y) := by simp
theorem dec_vs {x y : Str} : decide (V.str x = V.str y) = decide (x = y) := by simp
theorem dec_vb {x y : Bool} : decide (V.bl x = V.bl y) = decide (x = y) := by simp
theorem r2_eq {c : Ct} : R2ok c (rEqA c.K) (eqS false) := by
  intro Hf H x y rx ry Q i hx hy o
  unfold eqS at o
  split at o
  · cases hx; cases hy; exact .inl ⟨rfl, by rw [dec_vi]; exact GE.now o i (.bl _)⟩
  · cases hx; cases hy; exact .inl ⟨rfl, by rw [dec_vs]; exact GE.now o i (.bl _)⟩
  · cases hx; cases hy; exact .inl ⟨rfl, by rw [dec_vb]; exact GE.now o i (.bl _)⟩
  · cases hx; cases hy; exact .inl ⟨rfl, GE.now o i (.bl _)⟩
  · cases hx; cases hy; exact .inl ⟨rfl, GE.now o i (.bl _)⟩
  · cases hx; cases hy; exact .inl ⟨rfl, GE.now o i (.bl _)⟩
  · exact .inr (r2_eqG Hf H x y _ _ Q i hx hy o)
theorem r2_ne {c : Ct} : R2ok c (rNeA c.K) (eqS true) := by
  intro Hf H x y rx ry Q i hx hy o
  unfold eqS at o
  split at o
  · cases hx; cases hy; exact .inl ⟨rfl, by rw [dec_vi]; exact GE.now o i (.bl _)⟩
  · cases hx; cases hy; exact .inl ⟨rfl, by rw [dec_vs]; exact GE.now o i (.bl _)⟩
  · cases hx; cases hy; exact .inl ⟨rfl, by rw [dec_vb]; exact GE.now o i (.bl _)⟩
  · cases hx; cases hy; exact .inl ⟨rfl, GE.now o i (.bl _)⟩
  · cases hx; cases hy; exact .inl ⟨rfl, GE.now o i (.bl _)⟩
  · cases hx; cases hy; exact .inl ⟨rfl, GE.now o i (.bl _)⟩
  · exact .inr (r2_neG Hf H x y _ _ Q i hx hy o)
/-- is None, is not None -/
def isN : D → Bool
  | .none => true
  | _ => false
def isnS (neg : Bool) : SV → SV → R SV
  | .d x, .d .none => .ok (.d (.bool (if neg then !isN x else isN x)))
  | .ol _, .d .none => .ok (.d (.bool neg))
  | .od _, .d .none => .ok (.d (.bool neg))
  | _, _ => .bad
theorem non_iff {K : PySem.W.Frag} {H : Hp} {v : V} {d : D} (h : Dp K H v d) : decide (v = V.non) = isN d := by
  cases h <;> rfl
theorem r2_isn {c : Ct} : R2ok c (fun x y H Q => y = .non ∧ Q (.bl (decide (x = .non))) H) (isnS false) := by
  intro Hf H x y rx ry Q i hx hy o
  unfold isnS at o
  split at o
  · cases hy
    refine ⟨rfl, GE.now o i ?_⟩
    rw [non_iff hx]
    exact .bl _
  · cases hy
    obtain ⟨p, vs, rfl, _⟩ := hx
    exact ⟨rfl, GE.now o i (.bl _)⟩
  · cases hy
    obtain ⟨p, vs, rfl, _⟩ := hx
    exact ⟨rfl, GE.now o i (.bl _)⟩
  · exact o.elim
theorem r2_notn {c : Ct} : R2ok c (fun x y H Q => y = .non ∧ Q (.bl (!decide (x = .non))) H) (isnS true) := by
  intro Hf H x y rx ry Q i hx hy o
  unfold isnS at o
  split at o
  · cases hy
    refine ⟨rfl, GE.now o i ?_⟩
    rw [non_iff hx]
    exact .bl _
  · cases hy
    obtain ⟨p, vs, rfl, _⟩ := hx
    exact ⟨rfl, GE.now o i (.bl _)⟩
  · cases hy
    obtain ⟨p, vs, rfl, _⟩ := hx
    exact ⟨rfl, GE.now o i (.bl _)⟩
  · exact o.elim

/-! ### in: a text in a text, data in a list or (flat) in a tuple -/
def datL : SV → R (List D)
  | .d (.list xs) => .ok xs
  | .ol xs => .ok xs
  | _ => .bad
def inS (neg : Bool) (a b : SV) : R SV := match a, b with
  | .d (.str x), .d (.str y) => .ok (.d (.bool (if neg then !(!(Builtin.Str.occurrences y x 0 y.length 1).isEmpty) else !(Builtin.Str.occurrences y x 0 y.length 1).isEmpty)))
  | .d x, .d (.list ys) => if shpD x = true ∧ shpD (.list ys) = true then .ok (.d (.bool (if neg then !(ys.any fun z => PyData.eqv z x) else ys.any fun z => PyData.eqv z x))) else .bad
  | .d x, .ol ys => if shpD x = true ∧ shpD (.list ys) = true then .ok (.d (.bool (if neg then !(ys.any fun z => PyData.eqv z x) else ys.any fun z => PyData.eqv z x))) else .bad
  | .d x, .d (.tuple ys) => if flat x = true ∧ ys.all flat = true then .ok (.d (.bool (if neg then !(ys.any fun z => PyData.eqv z x) else ys.any fun z => PyData.eqv z x))) else .bad
  | _, _ => .bad
theorem flat_of {K : PySem.W.Frag} {H : Hp} {v : V} {d : D} (h : Dp K H v d) (e : flat d = true) : flatV v = true := by
  cases h with
  | lst _ _ => cases e
  | tup _ _ => cases e
  | _ => rfl
theorem eqV_of {K : PySem.W.Frag} {H : Hp} {v u : V} {d e : D} (h : Dp K H v d) (h' : Dp K H u e) (f : flat d = true) (f' : flat e = true) : eqV v u = PyData.eqv d e := by
  cases h <;> cases h' <;> first
    | rfl
    | cases f
    | cases f'
    | simp [eqV, PyData.eqv]
theorem flatAll_of {K : PySem.W.Frag} {H : Hp} : ∀ {vs : List V} {ds : List D}, DpAll K H vs ds → ds.all flat = true → vs.all flatV = true
  | _, _, .nil, _ => rfl
  | _, _, .cons a b, e => by
    rw [List.all_cons, Bool.and_eq_true] at e
    rw [List.all_cons, flat_of a e.1, flatAll_of b e.2] <;> rfl
theorem inV_of {K : PySem.W.Frag} {H : Hp} {v : V} {d : D} (h : Dp K H v d) (f : flat d = true) : ∀ {vs : List V} {ds : List D}, DpAll K H vs ds → ds.all flat = true → inV v vs = ds.any fun z => PyData.eqv z d
  | _, _, .nil, _ => rfl
  | _, _, .cons a b, e => by
    rw [List.all_cons, Bool.and_eq_true] at e
    show (eqV _ v || inV v _) = _
    rw [List.any_cons, eqV_of a h e.1 f, inV_of h f b e.2]
abbrev rInA (K : PySem.W.Frag) : R2 := fun x y H Q => (∃ i j, x = .str i ∧ y = .str j ∧ Q (.bl (!(Builtin.Str.occurrences j i 0 j.length 1).isEmpty)) H) ∨ (rInP K x y H Q ∨ rIn K false x y H Q)
abbrev rNotInA (K : PySem.W.Frag) : R2 := fun x y H Q => (∃ i j, x = .str i ∧ y = .str j ∧ Q (.bl (!(!(Builtin.Str.occurrences j i 0 j.length 1).isEmpty))) H) ∨ (rNotInP K x y H Q ∨ rIn K true x y H Q)
theorem o_in {X : Cx} (hu : X.A.units + 65 < cLine) : OpR X (compareOp .In) (rInA X.K) := Pl.OpR.or op_in_str (Pl.OpR.or (op_inP hu) op_in_seq)
theorem o_notin {X : Cx} (hu : X.A.units + 65 < cLine) : OpR X (compareOp .NotIn) (rNotInA X.K) := Pl.OpR.or op_notIn_str (Pl.OpR.or (op_notInP hu) op_notIn_seq)
theorem r2_in {c : Ct} : R2ok c (rInA c.K) (inS false) := by
  intro Hf H x y rx ry Q i hx hy o
  unfold inS at o
  split at o
  · cases hx; cases hy; exact .inl ⟨_, _, rfl, rfl, GE.now o i (.bl _)⟩
  · split at o
    · rename_i h
      exact .inr (.inl ⟨_, _, looked (c := c) i hx rfl, looked (c := c) i hy rfl, h.1, h.2, GE.now o i (.bl _)⟩)
    · exact o.elim
  · split at o
    · rename_i h
      exact .inr (.inl ⟨_, _, looked (c := c) i hx rfl, looked (c := c) i hy rfl, h.1, h.2, GE.now o i (.bl _)⟩)
    · exact o.elim
  · split at o
    · rename_i h
      obtain ⟨p, vs, rfl, h1, _, h3⟩ := rep_tup i hy
      have e := inV_of hx h.1 h3 h.2
      refine .inr (.inr ⟨p, vs, rfl, .inr h1, flat_of hx h.1, flatAll_of h3 h.2, ?_⟩)
      rw [e]
      exact GE.now o i (.bl _)
    · exact o.elim
  · exact o.elim
theorem r2_notin {c : Ct} : R2ok c (rNotInA c.K) (inS true) := by
  intro Hf H x y rx ry Q i hx hy o
  unfold inS at o
  split at o
  · cases hx; cases hy; exact .inl ⟨_, _, rfl, rfl, GE.now o i (.bl _)⟩
  · split at o
    · rename_i h
      exact .inr (.inl ⟨_, _, looked (c := c) i hx rfl, looked (c := c) i hy rfl, h.1, h.2, GE.now o i (.bl _)⟩)
    · exact o.elim
  · split at o
    · rename_i h
      exact .inr (.inl ⟨_, _, looked (c := c) i hx rfl, looked (c := c) i hy rfl, h.1, h.2, GE.now o i (.bl _)⟩)
    · exact o.elim
  · split at o
    · rename_i h
      obtain ⟨p, vs, rfl, h1, _, h3⟩ := rep_tup i hy
      have e := inV_of hx h.1 h3 h.2
      refine .inr (.inr ⟨p, vs, rfl, .inr h1, flat_of hx h.1, flatAll_of h3 h.2, ?_⟩)
      rw [e]
      exact GE.now o i (.bl _)
    · exact o.elim
  · exact o.elim

/-! ### items, slices -/
def ixS (a b : SV) : R SV := match a, b with
  | .d (.list xs), .d (.int i) => (match atI xs i with | some d => .ok (.d d) | none => .bad)
  | .ol xs, .d (.int i) => (match atI xs i with | some d => .ok (.d d) | none => .bad)
  | .d (.tuple xs), .d (.int i) => (match atI xs i with | some d => .ok (.d d) | none => .bad)
  | .d (.str z), .d (.int i) => if z.length ≤ sizeLine then (match atI z.cps.toList i with | some c => .ok (.d (.str ⟨#[c]⟩)) | none => .bad) else .bad
  | _, _ => .bad
theorem dpAll_at {K : PySem.W.Frag} {H : Hp} {vs : List V} {ds : List D} {i : Int} {d : D} (h : DpAll K H vs ds) (e : atI ds i = some d) : ∃ v, atI vs i = some v ∧ Dp K H v d := by
  unfold atI at e ⊢
  rw [dpAll_len h]
  cases q : ixN ds.length i with
  | none => rw [q] at e; cases e
  | some j =>
    rw [q] at e
    exact dpAll_get h e
theorem r2_ix {c : Ct} : R2ok c (rIx c.K) ixS := by
  intro Hf H x y rx ry Q i hx hy o
  unfold ixS at o
  split at o
  · split at o
    · rename_i e
      cases hy
      cases hx with
      | lst h1 h2 =>
        obtain ⟨v, e1, e2⟩ := dpAll_at h2 e
        exact .inl ⟨_, _, _, v, rfl, rfl, i.seq h1, e1, GE.now o i e2⟩
    · exact o.elim
  · split at o
    · rename_i e
      cases hy
      obtain ⟨p, vs, rfl, h1, h2, h3⟩ := hx
      obtain ⟨v, e1, e2⟩ := dpAll_at h3 e
      exact .inl ⟨_, _, _, v, rfl, rfl, .inl (.inl h1), e1, GE.now o i e2⟩
    · exact o.elim
  · split at o
    · rename_i e
      cases hy
      obtain ⟨p, vs, rfl, h1, _, h3⟩ := rep_tup i hx
      obtain ⟨v, e1, e2⟩ := dpAll_at h3 e
      exact .inr (.inl ⟨_, _, _, v, rfl, rfl, h1, e1, GE.now o i e2⟩)
    · exact o.elim
  · split at o
    · rename_i hz
      split at o
      · rename_i e
        cases hx; cases hy
        exact .inr (.inr ⟨_, _, _, rfl, rfl, hz, e, GE.now o i (.str _)⟩)
      · exact o.elim
    · exact o.elim
  · exact o.elim
def cutD {α : Type} (xs : List α) (lo hi : Option Int) : List α := (xs.drop (HT.sIx xs.length 0 lo)).take (HT.sIx xs.length xs.length hi - HT.sIx xs.length 0 lo)
theorem dpAll_cut {K : PySem.W.Frag} {H : Hp} {vs : List V} {ds : List D} {lo hi : Option Int} (h : DpAll K H vs ds) : DpAll K H (cutV vs lo hi) (cutD ds lo hi) := by
  unfold cutV cutD
  rw [dpAll_len h]
  exact dpAll_take _ (dpAll_drop _ h)
def slS (a : SV) (lo hi : Option Int) : R SV := match a with
  | .d (.list xs) => .ok (.ol (cutD xs lo hi))
  | .ol xs => .ok (.ol (cutD xs lo hi))
  | .d (.tuple xs) => .ok (.d (.tuple (cutD xs lo hi)))
  | .d (.str z) => if z.length ≤ sizeLine then .ok (.d (.str (cutS z lo hi))) else .bad
  | _ => .bad
abbrev rSl (K : PySem.W.Frag) : V → Option Int → Option Int → Hp → VK → Prop := fun x lo hi H Q => rSlL K x lo hi H Q ∨ (rSlA K x lo hi H Q ∨ rSlS x lo hi H Q)
theorem o_sl {X : Cx} : SlR X (rSl X.K) := sl_list.or (sl_tupA.or sl_str)
theorem sIx_whole {α : Type} {xs : List α} {lo hi : Option Int} (h : HT.sIx xs.length 0 lo = 0 ∧ HT.sIx xs.length xs.length hi = xs.length) : cutD xs lo hi = xs := by
  unfold cutD
  rw [h.1, h.2]
  simp
theorem slS_ok {c : Ct} {Hf H : Hp} {x : V} {r : SV} {lo hi : Option Int} {Q : VK} (i : Same Hf H) (hx : RepR c.K Hf H x r) (o : Out c Hf H (slS r lo hi) (GE c true Hf H Q)) : rSl c.K x lo hi H Q := by
  unfold slS at o
  split at o
  · obtain ⟨p, vs, rfl, h1, h2⟩ := rep_list i hx (.inl rfl)
    exact .inl ⟨p, vs, rfl, h1, fun q hq => GE.newL o i hq (dpAll_cut h2)⟩
  · obtain ⟨p, vs, rfl, h1, h2⟩ := rep_list i hx (.inr rfl)
    exact .inl ⟨p, vs, rfl, h1, fun q hq => GE.newL o i hq (dpAll_cut h2)⟩
  · obtain ⟨p, vs, rfl, h1, h1f, h3⟩ := rep_tup i hx
    refine .inr (.inl ⟨p, vs, rfl, h1, fun e => ?_, fun _ q hq => GE.newT o i hq (dpAll_cut h3)⟩)
    rw [dpAll_len h3] at e
    rw [sIx_whole e] at o
    exact GE.now o i (.tup h1f h3)
  · split at o
    · rename_i hz
      cases hx
      exact .inr (.inr ⟨_, rfl, hz, GE.now o i (.str _)⟩)
    · exact o.elim
  · exact o.elim
def SemO (c : Ct) (t : TO) (f : En → R (Option Int)) : Prop := ∀ B H0 Hf H σ ρ Q, EnvOk c.K B H0 Hf H σ ρ → Out c Hf H (f ρ) (fun o => ∀ Hf' H', Ext Hf H Hf' H' → Q o H') → t σ H Q
def noO : En → R (Option Int) := fun _ => .ok none
def someO (f : En → R SV) : En → R (Option Int) := fun ρ => f ρ >>= fun a => match a with
  | .d (.int i) => .ok (some i)
  | _ => .bad
theorem sem_noO {c : Ct} : SemO c tNoPart noO := fun B H0 Hf H σ ρ Q I o => o Hf H (.refl I.i)
theorem sem_someO {c : Ct} {t : TE} {f : En → R SV} (h : SemE c false t f) : SemO c (tPart t) (someO f) := by
  intro B H0 Hf H σ ρ Q I o
  refine h B H0 Hf H σ ρ _ I (Out.bind o fun a ea o1 => fun v Hf1 H1 x1 q1 _ => ?_)
  split at o1
  · cases q1; exact ⟨_, rfl, o1 _ _ x1⟩
  · exact o1.elim
def slice (fe : En → R SV) (fl fh : En → R (Option Int)) : En → R SV := fun ρ => fe ρ >>= fun a => fl ρ >>= fun l => fh ρ >>= fun h => slS a l h
theorem sem_slice {c : Ct} {te : TE} {tl th : TO} {fe : En → R SV} {fl fh : En → R (Option Int)} (he : SemE c false te fe) (hl : SemO c tl fl) (hh : SemO c th fh) : SemE c true (tSl (rSl c.K) te tl th) (slice fe fl fh) := by
  intro B H0 Hf H σ ρ Q I o
  refine he B H0 Hf H σ ρ _ I (Out.bind o fun a ea o1 => fun v Hf1 H1 x1 q1 _ => ?_)
  refine hl B H0 Hf1 H1 σ ρ _ (I.grow x1) (Out.bind (o1.grow x1 fun _ z => z) fun l el o2 => fun Hf2 H2 x2 => ?_)
  refine hh B H0 Hf2 H2 σ ρ _ ((I.grow x1).grow x2) (Out.bind (o2.grow x2 fun _ z => z) fun h eh o3 => fun Hf3 H3 x3 => ?_)
  exact slS_ok x3.i ((q1.grow x2).grow x3) (o3.grow x3 fun _ g => ((g.grow x1).grow x2).grow x3)
end Pl
namespace Pl
open PySem PySem.Spec PyProof.Rows L2
section
variable {c : Ct}

/-! ### tests -/
def bool1 : SV → R Bool
  | .d (.bool b) => .ok b
  | _ => .bad
def asT (f : En → R SV) : En → R Bool := fun ρ => f ρ >>= bool1
theorem sem_tB {b : Bool} {t : TE} {f : En → R SV} (h : SemE c b t f) : SemT c (tB t) (asT f) := by
  intro B H0 Hf H σ ρ Q I o
  refine h B H0 Hf H σ ρ _ I (Out.bind o fun a ea o1 => fun v Hf1 H1 x1 q1 _ => ?_)
  unfold bool1 at o1
  split at o1
  · cases q1; exact ⟨_, rfl, o1 _ _ x1⟩
  · exact o1.elim
theorem sem_tTest {b : Bool} {t : TE} {f : En → R SV} (h : SemE c b t f) : SemT c (tTest t) (asT f) := sem_tB h
def truD : D → R Bool
  | .none => .ok false
  | .bool b => .ok b
  | .int i => .ok (i != 0)
  | .str y => if y.length ≤ sizeLine then .ok ((y.length : Int) != 0) else .bad
  | .list xs => .ok (!xs.isEmpty)
  | .tuple xs => .ok (!xs.isEmpty)
  | .dict _ => .bad
def truS : SV → R Bool
  | .d x => truD x
  | .ol xs => .ok (!xs.isEmpty)
  | .od kvs => .ok (!kvs.isEmpty)
  | .pin xs => .ok (!xs.isEmpty)
  | .exn _ _ => .bad
  | .pd _ => .bad
  | .kd _ => .bad
  | .sk _ => .bad
  | .sd _ => .bad
  | .so _ _ => .bad
  | .oi _ _ => .bad
def tru (f : En → R SV) : En → R Bool := fun ρ => f ρ >>= truS
theorem dpAll_emp {K : PySem.W.Frag} {H : Hp} {vs : List V} {ds : List D} (h : DpAll K H vs ds) : vs.isEmpty = ds.isEmpty := by cases h <;> rfl
theorem truS_ok {Hf H : Hp} {v : V} {r : SV} {k : Bool} (i : Same Hf H) (q : RepR c.K Hf H v r) (e : truS r = .ok k) : TruV c.K v H k := by
  cases r with
  | d x =>
    cases q with
    | non => cases e; rfl
    | bl b => cases e; rfl
    | int n => cases e; rfl
    | str y =>
      unfold truS truD at e
      dsimp only at e
      split at e
      · rename_i h; cases e; exact ⟨h, rfl⟩
      · cases e
    | lst h1 h2 => cases e; exact .inl ⟨_, i.seq h1, by rw [dpAll_emp h2]⟩
    | tup h1 h2 => cases e; exact .inr (.inl ⟨_, sqT_mono i h1, by rw [dpAll_emp h2]⟩)
  | ol xs => cases e; obtain ⟨p, vs, rfl, h1, h2, h3⟩ := q; exact .inl ⟨_, .inl (.inl h1), by rw [dpAll_emp h3]⟩
  | od kvs =>
    cases e; obtain ⟨p, vs, rfl, h1, h2, h3⟩ := q
    refine .inr (.inr ⟨_, h1, ?_⟩)
    cases h3 <;> rfl
  | pin xs => cases e; obtain ⟨p, vs, rfl, h1, h2, h3⟩ := q; exact .inl ⟨_, .inl (.inl h1), by rw [dpAll_emp h3]⟩
  | exn n as => cases e
  | pd kvs => cases e
  | kd kvs => cases e
  | sk kvs => cases e
  | sd kvs => cases e
  | so C fs => cases e
  | oi C fs => cases e
theorem sem_tru {t : TE} {f : En → R SV} (h : SemE c false t f) : SemT c (fun σ H Q => t σ H fun x H' => ∃ k, TruV c.K x H' k ∧ Q k H') (tru f) := by
  intro B H0 Hf H σ ρ Q I o
  refine h B H0 Hf H σ ρ _ I (Out.bind o fun a ea o1 => fun v Hf1 H1 x1 q1 _ => ?_)
  cases e : truS a with
  | ok k => rw [e] at o1; exact ⟨k, truS_ok x1.i q1 e, o1 _ _ x1⟩
  | bad => rw [e] at o1; exact o1.elim
  | ex n as =>
    exfalso
    unfold truS truD at e
    split at e
    · split at e <;> first | cases e | (split at e <;> cases e)
    all_goals cases e
def andT (f g : En → R Bool) : En → R Bool := fun ρ => f ρ >>= fun b => if b = true then g ρ else .ok false
def orT (f g : En → R Bool) : En → R Bool := fun ρ => f ρ >>= fun b => if b = true then .ok true else g ρ
def notT (f : En → R Bool) : En → R Bool := fun ρ => f ρ >>= fun b => .ok (!b)
theorem sem_and {t u : TT} {f g : En → R Bool} (h1 : SemT c t f) (h2 : SemT c u g) : SemT c (tAnd t u) (andT f g) := by
  intro B H0 Hf H σ ρ Q I o
  refine h1 B H0 Hf H σ ρ _ I (Out.bind o fun a ea o1 => fun Hf1 H1 x1 => ?_)
  cases a with
  | true => exact iteT (h2 B H0 Hf1 H1 σ ρ _ (I.grow x1) (o1.grow x1 fun _ g => g.grow x1))
  | false => exact iteF (o1 _ _ x1)
theorem sem_or {t u : TT} {f g : En → R Bool} (h1 : SemT c t f) (h2 : SemT c u g) : SemT c (tOr t u) (orT f g) := by
  intro B H0 Hf H σ ρ Q I o
  refine h1 B H0 Hf H σ ρ _ I (Out.bind o fun a ea o1 => fun Hf1 H1 x1 => ?_)
  cases a with
  | true => exact iteT (o1 _ _ x1)
  | false => exact iteF (h2 B H0 Hf1 H1 σ ρ _ (I.grow x1) (o1.grow x1 fun _ g => g.grow x1))
theorem sem_not {t : TT} {f : En → R Bool} (h1 : SemT c t f) : SemT c (tNot t) (notT f) := by
  intro B H0 Hf H σ ρ Q I o
  refine h1 B H0 Hf H σ ρ _ I (Out.bind o fun a ea o1 => fun Hf1 H1 x1 => o1 _ _ x1)
/-! ### and, or, not as values; a if t else b -/
def andV (f g : En → R SV) : En → R SV := fun ρ => f ρ >>= bool1 >>= fun b => if b = true then g ρ else .ok (.d (.bool false))
def orV (f g : En → R SV) : En → R SV := fun ρ => f ρ >>= bool1 >>= fun b => if b = true then .ok (.d (.bool true)) else g ρ
def notV (f : En → R SV) : En → R SV := fun ρ => f ρ >>= bool1 >>= fun b => .ok (.d (.bool !b))
def notN (f : En → R SV) : En → R SV := fun ρ => f ρ >>= truS >>= fun b => .ok (.d (.bool !b))
theorem bool1_ok {K : Kx} {Hf H : Hp} {v : V} {r : SV} {b : Bool} (q : RepR K Hf H v r) (e : bool1 r = .ok b) : v = .bl b := by
  unfold bool1 at e
  split at e
  · cases e; cases q; rfl
  · cases e
theorem out_bool {α : Type} {Hf H : Hp} {a : SV} {k : Bool → R α} {G : α → Prop} (o : Out c Hf H (bool1 a >>= k) G) : ∃ b, bool1 a = .ok b ∧ Out c Hf H (k b) G := by
  cases e : bool1 a with
  | ok b => rw [e] at o; exact ⟨b, rfl, o⟩
  | bad => rw [e] at o; exact o.elim
  | ex n as => exfalso; unfold bool1 at e; split at e <;> cases e
theorem sem_andV {b : Bool} {t u : TE} {f g : En → R SV} (h1 : SemE c false t f) (h2 : SemE c b u g) : SemE c b (tAndV t u) (andV f g) := by
  intro B H0 Hf H σ ρ Q I o
  unfold andV at o
  rw [bind_assoc'] at o
  refine h1 B H0 Hf H σ ρ _ I (Out.bind o fun a ea o1 => fun v Hf1 H1 x1 q1 _ => ?_)
  obtain ⟨k, e, o2⟩ := out_bool o1
  refine ⟨k, bool1_ok q1 e, ?_⟩
  cases k with
  | true => exact iteT (h2 B H0 Hf1 H1 σ ρ _ (I.grow x1) (o2.grow x1 fun _ g => g.grow x1))
  | false => exact iteF (GE.now (GE.grow (show GE c b Hf H Q _ from o2) x1) x1.i (.bl _))
theorem sem_orV {b : Bool} {t u : TE} {f g : En → R SV} (h1 : SemE c false t f) (h2 : SemE c b u g) : SemE c b (tOrV t u) (orV f g) := by
  intro B H0 Hf H σ ρ Q I o
  unfold orV at o
  rw [bind_assoc'] at o
  refine h1 B H0 Hf H σ ρ _ I (Out.bind o fun a ea o1 => fun v Hf1 H1 x1 q1 _ => ?_)
  obtain ⟨k, e, o2⟩ := out_bool o1
  refine ⟨k, bool1_ok q1 e, ?_⟩
  cases k with
  | true => exact iteT (GE.now (GE.grow (show GE c b Hf H Q _ from o2) x1) x1.i (.bl _))
  | false => exact iteF (h2 B H0 Hf1 H1 σ ρ _ (I.grow x1) (o2.grow x1 fun _ g => g.grow x1))
theorem sem_notV {b : Bool} {t : TE} {f : En → R SV} (h1 : SemE c false t f) : SemE c b (tNotV t) (notV f) := by
  intro B H0 Hf H σ ρ Q I o
  unfold notV at o
  rw [bind_assoc'] at o
  refine h1 B H0 Hf H σ ρ _ I (Out.bind o fun a ea o1 => fun v Hf1 H1 x1 q1 _ => ?_)
  obtain ⟨k, e, o2⟩ := out_bool o1
  exact ⟨k, bool1_ok q1 e, GE.now (GE.grow (show GE c b Hf H Q _ from o2) x1) x1.i (.bl _)⟩
theorem sem_notN {b : Bool} {t : TE} {f : En → R SV} (h1 : SemE c false t f) : SemE c b (tNotT c.K t) (notN f) := by
  intro B H0 Hf H σ ρ Q I o
  unfold notN at o
  rw [bind_assoc'] at o
  refine h1 B H0 Hf H σ ρ _ I (Out.bind o fun a ea o1 => fun v Hf1 H1 x1 q1 _ => ?_)
  cases e : truS a with
  | ok k => rw [e] at o1; exact ⟨k, truS_ok x1.i q1 e, GE.now (GE.grow (show GE c b Hf H Q _ from o1) x1) x1.i (.bl _)⟩
  | bad => rw [e] at o1; exact o1.elim
  | ex n as =>
    exfalso
    unfold truS truD at e
    split at e
    · split at e <;> first | cases e | (split at e <;> cases e)
    all_goals cases e
def iff' (t : En → R Bool) (f g : En → R SV) : En → R SV := fun ρ => t ρ >>= fun b => if b = true then f ρ else g ρ
theorem sem_ifE {b : Bool} {t : TT} {u v : TE} {ft : En → R Bool} {f g : En → R SV} (h : SemT c t ft) (h1 : SemE c b u f) (h2 : SemE c b v g) : SemE c b (tIf t u v) (iff' ft f g) := by
  intro B H0 Hf H σ ρ Q I o
  refine h B H0 Hf H σ ρ _ I (Out.bind o fun a ea o1 => fun Hf1 H1 x1 => ?_)
  cases a with
  | true => exact iteT (h1 B H0 Hf1 H1 σ ρ _ (I.grow x1) (o1.grow x1 fun _ g => g.grow x1))
  | false => exact iteF (h2 B H0 Hf1 H1 σ ρ _ (I.grow x1) (o1.grow x1 fun _ g => g.grow x1))
def chain (g g' : SV → SV → R SV) (fa fb fc : En → R SV) : En → R SV := fun ρ => fa ρ >>= fun a => fb ρ >>= fun b => g a b >>= fun z => bool1 z >>= fun k => if k = true then fc ρ >>= fun w => g' b w else .ok (.d (.bool false))
theorem sem_chain {r r' : R2} {g g' : SV → SV → R SV} {ta tb tc : TE} {fa fb fc : En → R SV} (hr : R2ok c r g) (hr' : R2ok c r' g') (ha : SemE c false ta fa) (hb : SemE c false tb fb) (hc : SemE c false tc fc) :
    SemE c true (tChain r r' ta tb tc) (chain g g' fa fb fc) := by
  intro B H0 Hf H σ ρ Q I o
  refine ha B H0 Hf H σ ρ _ I (Out.bind o fun a ea o1 => fun v Hf1 H1 x1 q1 _ => ?_)
  refine hb B H0 Hf1 H1 σ ρ _ (I.grow x1) (Out.bind (o1.grow x1 fun _ z => z) fun b eb o2 => fun u Hf2 H2 x2 q2 _ => ?_)
  refine hr Hf2 H2 v u a b _ x2.i (q1.grow x2) q2 (Out.bind (o2.grow x2 fun _ z => z) fun z ez o3 => fun w Hf3 H3 x3 q3 _ => ?_)
  obtain ⟨k, e, o4⟩ := out_bool o3
  refine ⟨k, bool1_ok q3 e, ?_⟩
  have X := (x1.trans x2).trans x3
  cases k with
  | true =>
    refine iteT (hc B H0 Hf3 H3 σ ρ _ (I.grow X) (Out.bind (o4.grow x3 fun _ z => z) fun y ey o5 => fun w2 Hf4 H4 x4 q4 _ => ?_))
    exact hr' Hf4 H4 u w2 b y Q x4.i (((q2.grow x3).grow x4)) q4 (o5.grow x4 fun _ g => GE.grow g (X.trans x4))
  | false => exact iteF (GE.now (GE.grow (show GE c true Hf H Q _ from o4) X) X.i (.bl _))

/-! ### argument lists -/
def nilA : En → R (List D) := fun _ => .ok []
def conA (f : En → R SV) (g : En → R (List D)) : En → R (List D) := fun ρ => f ρ >>= fun a => datS a >>= fun d => g ρ >>= fun ds => .ok (d :: ds)
theorem sem_nilA : SemA c tNil nilA := fun B H0 Hf H σ ρ Q I o => o [] Hf H (.refl I.i) .nil
theorem out_dat {α : Type} {Hf H : Hp} {a : SV} {k : D → R α} {G : α → Prop} (o : Out c Hf H (datS a >>= k) G) : ∃ d, datS a = .ok d ∧ Out c Hf H (k d) G := by
  cases e : datS a with
  | ok b => rw [e] at o; exact ⟨b, rfl, o⟩
  | bad => rw [e] at o; exact o.elim
  | ex n as => cases a <;> cases e
theorem sem_conA {te : TE} {t : TA} {f : En → R SV} {g : En → R (List D)} (h : SemE c true te f) (h' : SemA c t g) : SemA c (tCons te t) (conA f g) := by
  intro B H0 Hf H σ ρ Q I o
  refine h B H0 Hf H σ ρ _ I (Out.bind o fun a ea o1 => fun v Hf1 H1 x1 q1 fr => ?_)
  obtain ⟨d, e, o2⟩ := out_dat o1
  obtain ⟨Hf2, x2, q2⟩ := froze x1 q1 (fr rfl) e
  refine h' B H0 Hf2 H1 σ ρ _ (I.grow x2) (Out.bind (o2.grow x2 fun _ z => z) fun ds eds o3 => fun vs Hf3 H3 x3 q3 => ?_)
  exact (show GA c Hf H Q (d :: ds) from o3) (v :: vs) Hf3 H3 (x2.trans x3) (.cons (dp_mono x3.f q2) q3)
def nilB : En → R (List SV) := fun _ => .ok []
def conB (f : En → R SV) (g : En → R (List SV)) : En → R (List SV) := fun ρ => f ρ >>= fun a => g ρ >>= fun ds => .ok (a :: ds)
theorem sem_nilB : SemB c tNil nilB := fun B H0 Hf H σ ρ Q I o => o [] Hf H (.refl I.i) .nil
theorem sem_conB {te : TE} {t : TA} {f : En → R SV} {g : En → R (List SV)} (h : SemE c false te f) (h' : SemB c t g) : SemB c (tCons te t) (conB f g) := by
  intro B H0 Hf H σ ρ Q I o
  refine h B H0 Hf H σ ρ _ I (Out.bind o fun a ea o1 => fun v Hf1 H1 x1 q1 _ => ?_)
  refine h' B H0 Hf1 H1 σ ρ _ (I.grow x1) (Out.bind (o1.grow x1 fun _ z => z) fun ds eds o3 => fun vs Hf3 H3 x3 q3 => ?_)
  exact (show GB c Hf H Q (a :: ds) from o3) (v :: vs) Hf3 H3 (x1.trans x3) (.cons (q1.grow x3) q3)
/-! ### displays -/
def dispT (f : En → R (List D)) : En → R SV := fun ρ => f ρ >>= fun ds => if ds.length ≤ 1000 then .ok (.d (.tuple ds)) else .bad
def dispL (f : En → R (List D)) : En → R SV := fun ρ => f ρ >>= fun ds => if ds.length ≤ 1000 then .ok (.ol ds) else .bad
theorem sem_tup {t : TA} {f : En → R (List D)} (h : SemA c t f) : SemE c true (tTup t) (dispT f) := by
  intro B H0 Hf H σ ρ Q I o
  refine h B H0 Hf H σ ρ _ I (Out.bind o fun ds eds o1 => fun vs Hf1 H1 x1 q1 => ?_)
  split at o1
  · rename_i hl
    exact ⟨Nat.le_of_lt (small1000 (by rw [dpAll_len q1]; exact hl)), fun p hp => GE.newT (GE.grow (show GE c true Hf H Q _ from o1) x1) x1.i hp q1⟩
  · exact o1.elim
theorem sem_lst {t : TA} {f : En → R (List D)} (h : SemA c t f) : SemE c true (tLst t) (dispL f) := by
  intro B H0 Hf H σ ρ Q I o
  refine h B H0 Hf H σ ρ _ I (Out.bind o fun ds eds o1 => fun vs Hf1 H1 x1 q1 => ?_)
  split at o1
  · rename_i hl
    exact ⟨Nat.le_of_lt (small1000 (by rw [dpAll_len q1]; exact hl)), fun p hp => GE.newL (GE.grow (show GE c true Hf H Q _ from o1) x1) x1.i hp q1⟩
  · exact o1.elim

/-! ### a def's promise, and its call -/
def spF (w : World) (K : PySem.W.Frag) (cm : Nat → Addr × List Str) (n : Nat) (g : List D → R SV) : Sp := fun vs H Q E => vs.length = n ∧ ∃ (ex : Exi) (Hf : Hp) (ds : List D), Same Hf H ∧ DpAll K Hf vs ds ∧ Out ⟨⟨K, ex, w⟩, cm, E⟩ Hf H (g ds) (GE ⟨⟨K, ex, w⟩, cm, E⟩ true Hf H Q)
def callF (n : Nat) (g : List D → R SV) (f : En → R (List D)) : En → R SV := fun ρ => f ρ >>= fun ds => if ds.length = n then g ds else .bad
theorem sem_call {n : Nat} {g : List D → R SV} {t : TA} {f : En → R (List D)} (h : SemA c t f) : SemE c true (tCall (spF c.K.w c.K c.cm n g) [] c.E t) (callF n g f) := by
  intro B H0 Hf H σ ρ Q I o
  refine h B H0 Hf H σ ρ _ I (Out.bind o fun ds eds o1 => fun vs Hf1 H1 x1 q1 => ?_)
  split at o1
  · rename_i hl
    rw [List.append_nil]
    exact ⟨by rw [dpAll_len q1]; exact hl, c.K.x, Hf1, ds, x1.i, q1, o1.grow x1 fun _ g => g.grow x1⟩
  · exact o1.elim
def scalD : D → Bool := flat
def scalS : SV → Bool
  | .d x => flat x
  | _ => false
/-- what is lent -/
def lookS : SV → R D
  | .d x => .ok x
  | .ol xs => .ok (.list xs)
  | .od _ => .bad
  | .pin xs => .ok (.list xs)
  | .exn _ _ => .bad
  | .pd _ => .bad
  | .kd _ => .bad
  | .sk _ => .bad
  | .sd _ => .bad
  | .so _ _ => .bad
  | .oi _ _ => .bad
theorem lookS_ok {Hf H : Hp} {v : V} {r : SV} {d : D} (i : Same Hf H) (q : RepR c.K Hf H v r) (e : lookS r = .ok d) : Dp c.K H v d := by
  cases r with
  | d y => cases e; exact dp_mono i q
  | ol xs =>
    cases e
    obtain ⟨p, vs, rfl, h1, h2, h3⟩ := q
    exact .lst (.inl (.inl h1)) (dpAll_mono i h3)
  | od kvs => cases e
  | pin xs =>
    cases e
    obtain ⟨p, vs, rfl, h1, h2, h3⟩ := q
    exact .lst (.inl (.inl h1)) (dpAll_mono i h3)
  | exn n as => cases e
  | pd kvs => cases e
  | kd kvs => cases e
  | sk kvs => cases e
  | sd kvs => cases e
  | so C fs => cases e
  | oi C fs => cases e
def datsS : List SV → R (List D)
  | [] => .ok []
  | a :: r => lookS a >>= fun d => datsS r >>= fun ds => .ok (d :: ds)
theorem datsS_ok {Hf H : Hp} (i : Same Hf H) : ∀ {vs : List V} {rs : List SV} {ds : List D}, RepRs c.K Hf H vs rs → datsS rs = .ok ds → DpAll c.K H vs ds
  | _, _, _, .nil, e => by cases e; exact .nil
  | _, _, _, .cons (r := r) (rs := rs) a b, e => by
    unfold datsS at e
    cases e1 : lookS r with
    | ok d =>
      rw [e1, ok_bind] at e
      cases e2 : datsS rs with
      | ok ds' => rw [e2, ok_bind] at e; cases e; exact .cons (lookS_ok i a e1) (datsS_ok i b e2)
      | bad => rw [e2] at e; cases e
      | ex n as => rw [e2] at e; cases e
    | bad => rw [e1] at e; cases e
    | ex n as => rw [e1] at e; cases e
/-- a call whose arguments may be lists of this frame: its answer holds none of them -/
def callP (n : Nat) (g : List D → R SV) (f : En → R (List SV)) : En → R SV := fun ρ => f ρ >>= fun rs => match datsS rs with
  | .ok ds => if ds.length = n then (match g ds with
      | .ok r => if scalS r = true then .ok r else .bad
      | _ => .bad) else .bad
  | _ => .bad
theorem flat_any {K : PySem.W.Frag} {Hf Hf' : Hp} {v : V} {d : D} (h : Dp K Hf v d) (f : flat d = true) : Dp K Hf' v d := by
  cases h with
  | non => exact .non
  | bl b => exact .bl b
  | int i => exact .int i
  | str x => exact .str x
  | lst _ _ => cases f
  | tup _ _ => cases f
theorem sem_callP {n : Nat} {g : List D → R SV} {t : TA} {f : En → R (List SV)} (h : SemB c t f) : SemE c true (tCall (spF c.K.w c.K c.cm n g) [] c.E t) (callP n g f) := by
  intro B H0 Hf H σ ρ Q I o
  refine h B H0 Hf H σ ρ _ I (Out.bind o fun rs ers o1 => fun vs Hf1 H1 x1 q1 => ?_)
  cases e1 : datsS rs with
  | bad => simp only [e1] at o1; exact o1.elim
  | ex n as => simp only [e1] at o1; exact o1.elim
  | ok ds =>
    simp only [e1] at o1
    have q2 := datsS_ok (c := c) x1.i q1 e1
    split at o1
    · rename_i hl
      rw [List.append_nil]
      refine ⟨by rw [dpAll_len q2]; exact hl, c.K.x, H1, ds, .refl _, q2, ?_⟩
      cases e2 : g ds with
      | bad => simp only [e2] at o1; exact o1.elim
      | ex n as => simp only [e2] at o1; exact o1.elim
      | ok r =>
        simp only [e2] at o1
        split at o1
        · rename_i hs
          intro v Hf2 H2 x2 q3 _
          cases r with
          | d x => exact GE.now (GE.grow (show GE c true Hf H Q _ from o1) ⟨x1.f, x1.h.trans x2.h, x1.i.trans x2.h, fun p e => (x1.n p e)⟩) (x1.i.trans x2.h) (flat_any q3 hs)
          | ol xs => cases hs
          | od kvs => cases hs
          | pin kvs => cases hs
          | exn n as => cases hs
          | pd kvs => cases hs
          | kd kvs => cases hs
          | sk kvs => cases hs
          | sd kvs => cases hs
          | so C fs => cases hs
          | oi C fs => cases hs
        · exact o1.elim
    · exact o1.elim

/-! ### built-ins -/
def C1ok (c : Ct) (r : List V → Hp → VK → Prop) (g : List SV → R SV) : Prop := ∀ Hf H vs rs Q, Same Hf H → RepRs c.K Hf H vs rs → Out c Hf H (g rs) (GE c true Hf H Q) → r vs H Q
def callB (g : List SV → R SV) (f : En → R (List SV)) : En → R SV := fun ρ => f ρ >>= g
theorem sem_callB {r : List V → Hp → VK → Prop} {g : List SV → R SV} {t : TA} {f : En → R (List SV)} (hr : C1ok c r g) (h : SemB c t f) : SemE c true (tCB r t) (callB g f) := by
  intro B H0 Hf H σ ρ Q I o
  refine h B H0 Hf H σ ρ _ I (Out.bind o fun rs ers o1 => fun vs Hf1 H1 x1 q1 => ?_)
  exact hr Hf1 H1 vs rs Q x1.i q1 (o1.grow x1 fun _ g => g.grow x1)
def lenS : List SV → R SV
  | [.d (.list xs)] => .ok (.d (.int xs.length))
  | [.ol xs] => .ok (.d (.int xs.length))
  | [.d (.tuple xs)] => .ok (.d (.int xs.length))
  | [.d (.str z)] => if z.length ≤ sizeLine then .ok (.d (.int z.length)) else .bad
  | _ => .bad
theorem c1_len : C1ok c (fun xs H Q => ∃ x n, xs = [x] ∧ LenV c.K x H n ∧ Q (.int n) H) lenS := by
  intro Hf H vs rs Q i h o
  unfold lenS at o
  split at o
  · cases h with
    | cons a b =>
      cases b
      obtain ⟨p, vs, rfl, h1, h2⟩ := rep_list i a (.inl rfl)
      exact ⟨_, _, rfl, .inl ⟨_, h1, (dpAll_len h2).symm⟩, GE.now o i (.int _)⟩
  · cases h with
    | cons a b =>
      cases b
      obtain ⟨p, vs, rfl, h1, h2⟩ := rep_list i a (.inr rfl)
      exact ⟨_, _, rfl, .inl ⟨_, h1, (dpAll_len h2).symm⟩, GE.now o i (.int _)⟩
  · cases h with
    | cons a b =>
      cases b
      obtain ⟨p, vs, rfl, h1, _, h2⟩ := rep_tup i a
      exact ⟨_, _, rfl, .inr ⟨_, h1, (dpAll_len h2).symm⟩, GE.now o i (.int _)⟩
  · split at o
    · rename_i hz
      cases h with
      | cons a b =>
        cases b
        cases a
        exact ⟨_, _, rfl, ⟨hz, rfl⟩, GE.now o i (.int _)⟩
    · exact o.elim
  · exact o.elim
def intS : List SV → R SV
  | [.d (.int n)] => .ok (.d (.int n))
  | [.d (.bool k)] => .ok (.d (.int (if k then 1 else 0)))
  | _ => .bad
theorem c1_int : C1ok c (fun xs H Q => (∃ i, xs = [.int i] ∧ Q (.int i) H) ∨ ∃ k, xs = [.bl k] ∧ Q (.int (if k then 1 else 0)) H) intS := by
  intro Hf H vs rs Q i h o
  unfold intS at o
  split at o
  · cases h with
    | cons a b => cases b; cases a; exact .inl ⟨_, rfl, GE.now o i (.int _)⟩
  · cases h with
    | cons a b => cases b; cases a; exact .inr ⟨_, rfl, GE.now o i (.int _)⟩
  · exact o.elim
def absS : List SV → R SV
  | [.d (.int n)] => .ok (.d (.int (if n < 0 then -n else n)))
  | _ => .bad
theorem c1_abs : C1ok c (fun xs H Q => ∃ i, xs = [.int i] ∧ Q (.int (if i < 0 then -i else i)) H) absS := by
  intro Hf H vs rs Q i h o
  unfold absS at o
  split at o
  · cases h with
    | cons a b => cases b; cases a; exact ⟨_, rfl, GE.now o i (.int _)⟩
  · exact o.elim
def max2S : List SV → R SV
  | [.d (.int a), .d (.int b)] => .ok (.d (.int (if b > a then b else a)))
  | _ => .bad
theorem c1_max2 : C1ok c (fun xs H Q => ∃ i j, xs = [.int i, .int j] ∧ Q (.int (if j > i then j else i)) H) max2S := by
  intro Hf H vs rs Q i h o
  unfold max2S at o
  split at o
  · cases h with
    | cons a b =>
      cases b with
      | cons b d => cases d; cases a; cases b; exact ⟨_, _, rfl, GE.now o i (.int _)⟩
  · exact o.elim
def min2S : List SV → R SV
  | [.d (.int a), .d (.int b)] => .ok (.d (.int (if b < a then b else a)))
  | _ => .bad
theorem c1_min2 : C1ok c (fun xs H Q => ∃ i j, xs = [.int i, .int j] ∧ Q (.int (if j < i then j else i)) H) min2S := by
  intro Hf H vs rs Q i h o
  unfold min2S at o
  split at o
  · cases h with
    | cons a b =>
      cases b with
      | cons b d => cases d; cases a; cases b; exact ⟨_, _, rfl, GE.now o i (.int _)⟩
  · exact o.elim
def listS : List SV → R SV
  | [.d (.list xs)] => .ok (.ol xs)
  | [.ol xs] => .ok (.ol xs)
  | [.d (.tuple xs)] => .ok (.ol xs)
  | _ => .bad
theorem c1_list : C1ok c (fun xs H Q => ∃ p ys, xs = [.ref p] ∧ (SqL c.K H p ys ∨ SqT c.K H p ys) ∧ ∀ l, H l = none → Q (.ref l) (upd H l (.lst ys))) listS := by
  intro Hf H vs rs Q i h o
  unfold listS at o
  split at o
  · cases h with
    | cons a b =>
      cases b
      obtain ⟨p, vs, rfl, h1, h2⟩ := rep_list i a (.inl rfl)
      exact ⟨_, _, rfl, .inl h1, fun l hl => GE.newL o i hl h2⟩
  · cases h with
    | cons a b =>
      cases b
      obtain ⟨p, vs, rfl, h1, h2⟩ := rep_list i a (.inr rfl)
      exact ⟨_, _, rfl, .inl h1, fun l hl => GE.newL o i hl h2⟩
  · cases h with
    | cons a b =>
      cases b
      obtain ⟨p, vs, rfl, h1, _, h2⟩ := rep_tup i a
      exact ⟨_, _, rfl, .inr h1, fun l hl => GE.newL o i hl h2⟩
  · exact o.elim
def tupS : List SV → R SV
  | [.d (.list xs)] => .ok (.d (.tuple xs))
  | [.ol xs] => .ok (.d (.tuple xs))
  | [.d (.tuple xs)] => .ok (.d (.tuple xs))
  | _ => .bad
theorem c1_tup : C1ok c (fun xs H Q => ∃ p ys, xs = [.ref p] ∧ ((SqL c.K H p ys ∧ ∀ l, H l = none → Q (.ref l) (upd H l (.tup ys))) ∨ (SqT c.K H p ys ∧ Q (.ref p) H))) tupS := by
  intro Hf H vs rs Q i h o
  unfold tupS at o
  split at o
  · cases h with
    | cons a b =>
      cases b
      obtain ⟨p, vs, rfl, h1, h2⟩ := rep_list i a (.inl rfl)
      exact ⟨_, _, rfl, .inl ⟨h1, fun l hl => GE.newT o i hl h2⟩⟩
  · cases h with
    | cons a b =>
      cases b
      obtain ⟨p, vs, rfl, h1, h2⟩ := rep_list i a (.inr rfl)
      exact ⟨_, _, rfl, .inl ⟨h1, fun l hl => GE.newT o i hl h2⟩⟩
  · cases h with
    | cons a b =>
      cases b
      obtain ⟨p, vs, rfl, h1, h1f, h2⟩ := rep_tup i a
      exact ⟨_, _, rfl, .inr ⟨h1, GE.now o i (.tup h1f h2)⟩⟩
  · exact o.elim
/-- isinstance(e, T), T a built-in type by name -/
def tyN : D → String
  | .none => "NoneType" | .bool _ => "bool" | .int _ => "int" | .str _ => "str" | .list _ => "list" | .tuple _ => "tuple" | .dict _ => "dict"
def isi (T : String) (f : En → R SV) : En → R SV := fun ρ => f ρ >>= fun a => datS a >>= fun d => match kitB (tyN d) T with
  | some b => .ok (.d (.bool b))
  | none => .bad
theorem tyX_of {H : Hp} {K : PySem.W.Frag} {v : V} {d : D} (h : Dp K H v d) : TyX K H v (.type (tyN d)) := by
  cases h with
  | non => exact .base .non
  | bl b => exact .base (.bl b)
  | int n => exact .base (.int n)
  | str x => exact .base (.str x)
  | lst h1 _ =>
    rcases h1 with (h1 | ⟨o, h1⟩) | ⟨o, its, n, h1, h2, _⟩
    · exact .base (.lst h1)
    · exact .base (.frz h1)
    · exact .kList h1 h2
  | tup h1 _ =>
    rcases h1 with (h1 | ⟨o, h1⟩) | ⟨o, its, n, h1, h2, _⟩
    · exact .base (.tup h1)
    · exact .fTuple h1
    · exact .kTuple h1 h2
theorem sem_isi {te : TE} {T : String} {f : En → R SV} (h : SemE c false te f) : SemE c true (tCB (rIsi c.K) (tCons te (tCons (tC (.ty T)) tNil))) (isi T f) := by
  intro B H0 Hf H σ ρ Q I o
  refine h B H0 Hf H σ ρ _ I (Out.bind o fun a ea o1 => fun v Hf1 H1 x1 q1 _ => ?_)
  obtain ⟨d, e, o2⟩ := out_dat o1
  split at o2
  · rename_i b eb
    exact ⟨v, .ty T, _, _, b, rfl, .ty T, tyX_of (looked (c := c) x1.i q1 e), kit_ty eb, GE.now (GE.grow (show GE c true Hf H Q _ from o2) x1) x1.i (.bl _)⟩
  · exact o2.elim
def bls : List D → Option (List Bool)
  | [] => some []
  | .bool b :: r => (bls r).map (b :: ·)
  | _ => none
def intsD : List D → Option (List Int)
  | [] => some []
  | .int b :: r => (intsD r).map (b :: ·)
  | _ => none
theorem bls_ok {K : PySem.W.Frag} {H : Hp} : ∀ {vs : List V} {ds : List D} {bs : List Bool}, DpAll K H vs ds → bls ds = some bs → vs = bs.map V.bl
  | _, _, _, .nil, e => by cases e; rfl
  | _, _, _, .cons (ds := r) a b, e => by
    cases a with
    | bl x =>
      unfold bls at e
      cases q : bls r with
      | none => rw [q] at e; cases e
      | some bs' => rw [q] at e; cases e; rw [bls_ok b q]; rfl
    | _ => cases e
theorem ints_ok {K : PySem.W.Frag} {H : Hp} : ∀ {vs : List V} {ds : List D} {bs : List Int}, DpAll K H vs ds → intsD ds = some bs → vs = bs.map V.int
  | _, _, _, .nil, e => by cases e; rfl
  | _, _, _, .cons (ds := r) a b, e => by
    cases a with
    | int x =>
      unfold intsD at e
      cases q : intsD r with
      | none => rw [q] at e; cases e
      | some bs' => rw [q] at e; cases e; rw [ints_ok b q]; rfl
    | _ => cases e
def anyS : List SV → R SV
  | [a] => datL a |> fun x => match x with
    | .ok xs => (match bls xs with | some bs => .ok (.d (.bool (bs.any id))) | none => .bad)
    | _ => .bad
  | _ => .bad
def allS : List SV → R SV
  | [a] => datL a |> fun x => match x with
    | .ok xs => (match bls xs with | some bs => .ok (.d (.bool (bs.all id))) | none => .bad)
    | _ => .bad
  | _ => .bad
theorem datL_ok {Hf H : Hp} {v : V} {r : SV} {xs : List D} (i : Same Hf H) (q : RepR c.K Hf H v r) (e : datL r = .ok xs) : ∃ p vs, v = .ref p ∧ SqL c.K H p vs ∧ DpAll c.K Hf vs xs := by
  unfold datL at e
  split at e
  · cases e; exact rep_list i q (.inl rfl)
  · cases e; exact rep_list i q (.inr rfl)
  · cases e
theorem c1_any : C1ok c (rAny c.K) anyS := by
  intro Hf H vs rs Q i h o
  unfold anyS at o
  split at o
  · dsimp only at o
    split at o
    · rename_i xs e
      split at o
      · rename_i bs eb
        cases h with
        | cons a b =>
          cases b
          obtain ⟨p, vs, rfl, h1, h2⟩ := datL_ok i a e
          rw [bls_ok h2 eb] at h1
          exact ⟨_, _, rfl, h1, GE.now o i (.bl _)⟩
      · exact o.elim
    · exact o.elim
  · exact o.elim
theorem c1_all : C1ok c (rAll c.K) allS := by
  intro Hf H vs rs Q i h o
  unfold allS at o
  split at o
  · dsimp only at o
    split at o
    · rename_i xs e
      split at o
      · rename_i bs eb
        cases h with
        | cons a b =>
          cases b
          obtain ⟨p, vs, rfl, h1, h2⟩ := datL_ok i a e
          rw [bls_ok h2 eb] at h1
          exact ⟨_, _, rfl, h1, GE.now o i (.bl _)⟩
      · exact o.elim
    · exact o.elim
  · exact o.elim
def sumS : List SV → R SV
  | [a] => datL a |> fun x => match x with
    | .ok xs => (match intsD xs with | some bs => .ok (.d (.int bs.sum)) | none => .bad)
    | _ => .bad
  | _ => .bad
theorem c1_sum : C1ok c (rSum c.K) sumS := by
  intro Hf H vs rs Q i h o
  unfold sumS at o
  split at o
  · dsimp only at o
    split at o
    · rename_i xs e
      split at o
      · rename_i bs eb
        cases h with
        | cons a b =>
          cases b
          obtain ⟨p, vs, rfl, h1, h2⟩ := datL_ok i a e
          rw [ints_ok h2 eb] at h1
          exact ⟨_, _, rfl, h1, GE.now o i (.int _)⟩
      · exact o.elim
    · exact o.elim
  · exact o.elim
def maxI : Int → List Int → Int
  | m, [] => m
  | m, x :: r => maxI (if m < x then x else m) r
def minI : Int → List Int → Int
  | m, [] => m
  | m, x :: r => minI (if x < m then x else m) r
theorem maxI_ge : ∀ (r : List Int) (m : Int), m ≤ maxI m r ∧ ∀ y ∈ r, y ≤ maxI m r
  | [], m => ⟨Int.le_refl _, fun _ h => nomatch h⟩
  | x :: r, m => by
    have ih := maxI_ge r (if m < x then x else m)
    unfold maxI
    refine ⟨?_, fun y hy => ?_⟩
    · have := ih.1; split at this <;> rename_i h <;> simp only [h, if_true, if_false] <;> omega
    · rcases List.mem_cons.mp hy with rfl | hy
      · have := ih.1; split at this <;> rename_i h <;> simp only [h, if_true, if_false] <;> omega
      · exact ih.2 y hy
theorem minI_le : ∀ (r : List Int) (m : Int), minI m r ≤ m ∧ ∀ y ∈ r, minI m r ≤ y
  | [], m => ⟨Int.le_refl _, fun _ h => nomatch h⟩
  | x :: r, m => by
    have ih := minI_le r (if x < m then x else m)
    unfold minI
    refine ⟨?_, fun y hy => ?_⟩
    · have := ih.1; split at this <;> rename_i h <;> simp only [h, if_true, if_false] <;> omega
    · rcases List.mem_cons.mp hy with rfl | hy
      · have := ih.1; split at this <;> rename_i h <;> simp only [h, if_true, if_false] <;> omega
      · exact ih.2 y hy
theorem maxI_mem : ∀ (r : List Int) (m : Int), maxI m r = m ∨ maxI m r ∈ r
  | [], m => .inl rfl
  | x :: r, m => by
    have ih := maxI_mem r (if m < x then x else m)
    unfold maxI
    rcases ih with ih | ih
    · split at ih <;> rename_i h <;> simp only [h, if_true, if_false]
      · rw [ih]; exact .inr List.mem_cons_self
      · exact .inl ih
    · exact .inr (List.mem_cons_of_mem _ ih)
theorem minI_mem : ∀ (r : List Int) (m : Int), minI m r = m ∨ minI m r ∈ r
  | [], m => .inl rfl
  | x :: r, m => by
    have ih := minI_mem r (if x < m then x else m)
    unfold minI
    rcases ih with ih | ih
    · split at ih <;> rename_i h <;> simp only [h, if_true, if_false]
      · rw [ih]; exact .inr List.mem_cons_self
      · exact .inl ih
    · exact .inr (List.mem_cons_of_mem _ ih)
def maxS : List SV → R SV
  | [a] => datL a |> fun x => match x with
    | .ok xs => (match intsD xs with | some (b :: r) => .ok (.d (.int (maxI b r))) | _ => .bad)
    | _ => .bad
  | _ => .bad
def minS : List SV → R SV
  | [a] => datL a |> fun x => match x with
    | .ok xs => (match intsD xs with | some (b :: r) => .ok (.d (.int (minI b r))) | _ => .bad)
    | _ => .bad
  | _ => .bad
theorem c1_max : C1ok c (rMax c.K) maxS := by
  intro Hf H vs rs Q i h o
  unfold maxS at o
  split at o
  · dsimp only at o
    split at o
    · rename_i xs e
      split at o
      · rename_i b' r eb
        cases h with
        | cons a b =>
          cases b
          obtain ⟨p, vs, rfl, h1, h2⟩ := datL_ok i a e
          rw [ints_ok h2 eb] at h1
          refine ⟨_, _, rfl, h1, by simp, fun m hm hy => ?_⟩
          have g := maxI_ge r b'
          have e2 : m = maxI b' r := by
            refine Int.le_antisymm ?_ (hy _ ?_)
            · rcases List.mem_cons.mp hm with rfl | hm
              · exact g.1
              · exact g.2 _ hm
            · rcases maxI_mem r b' with z | z
              · rw [z]; exact List.mem_cons_self
              · exact List.mem_cons_of_mem _ z
          subst e2
          exact GE.now o i (.int _)
      · exact o.elim
    · exact o.elim
  · exact o.elim
theorem c1_min : C1ok c (rMin c.K) minS := by
  intro Hf H vs rs Q i h o
  unfold minS at o
  split at o
  · dsimp only at o
    split at o
    · rename_i xs e
      split at o
      · rename_i b' r eb
        cases h with
        | cons a b =>
          cases b
          obtain ⟨p, vs, rfl, h1, h2⟩ := datL_ok i a e
          rw [ints_ok h2 eb] at h1
          refine ⟨_, _, rfl, h1, by simp, fun m hm hy => ?_⟩
          have g := minI_le r b'
          have e2 : m = minI b' r := by
            refine Int.le_antisymm (hy _ ?_) ?_
            · rcases minI_mem r b' with z | z
              · rw [z]; exact List.mem_cons_self
              · exact List.mem_cons_of_mem _ z
            · rcases List.mem_cons.mp hm with rfl | hm
              · exact g.1
              · exact g.2 _ hm
          subst e2
          exact GE.now o i (.int _)
      · exact o.elim
    · exact o.elim
  · exact o.elim
end
end Pl
namespace Pl
open PySem PySem.Spec PyProof.Rows L2
section
variable {c : Ct}

/-! ### rebasing -/
theorem Ext.unbase {B H0 Hf H Hf2 H2 : Hp} (x : Ext B H0 Hf H) (y : Ext Hf H0 Hf2 H2) : Ext B H0 Hf2 H2 :=
  ⟨x.f.trans y.f, y.h, y.i, fun p e => by
    rcases y.n p e with z | z
    · exact x.n p z
    · exact .inr z⟩
theorem Ext.rebase {B H0 Hf H : Hp} (x : Ext B H0 Hf H) : Ext Hf H0 Hf H := ⟨.refl _, x.h, x.i, fun _ e => .inl e⟩
theorem EnvOk.rebase {K : Kx} {B : Bs} {H0 Hf H : Hp} {σ : L2.St} {ρ : En} (I : EnvOk K B H0 Hf H σ ρ) : EnvOk K ⟨Hf, B.fx⟩ H0 Hf H σ ρ := ⟨I.ext.rebase, I.len, I.sl, I.new, I.sep, fun i xs e => by
    obtain ⟨p, o, h1, h2, h3, h4⟩ := I.pin i xs e
    refine ⟨p, o, h1, h2, h3, ?_⟩
    cases q : Hf p with
    | none => exact q
    | some o' =>
      rcases I.ext.n p (by rw [q]; exact fun z => nomatch z) with z | z
      · exact absurd h4 z
      · rw [h3] at z; cases z⟩
theorem EnvOk.unbase {K : Kx} {B : Bs} {H0 Hf H Hf2 H2 : Hp} {σ : L2.St} {ρ : En} (I : EnvOk K ⟨Hf, B.fx⟩ H0 Hf2 H2 σ ρ) (x : Ext B.h H0 Hf H) : EnvOk K B H0 Hf2 H2 σ ρ := ⟨x.unbase I.ext, I.len, I.sl, I.new, I.sep, fun i xs e => by
    obtain ⟨p, o, h1, h2, h3, h4⟩ := I.pin i xs e
    exact ⟨p, o, h1, h2, h3, x.f.free h4⟩⟩
theorem GS.rebase {B : Bs} {H0 Hf H : Hp} {Dn : Ends} {fl : Fl} (g : GS c B H0 Dn fl) (x : Ext B.h H0 Hf H) : GS c ⟨Hf, B.fx⟩ H0 Dn fl := by
  cases fl with
  | nx ρ => exact fun Hf2 H2 σ I => g _ _ _ (I.unbase x)
  | bk ρ => exact fun Hf2 H2 σ I => g _ _ _ (I.unbase x)
  | ct ρ => exact fun Hf2 H2 σ I => g _ _ _ (I.unbase x)
  | rt r => exact fun v Hf2 H2 y => g v _ _ (x.unbase y)
theorem ExW.rebase {B H0 Hf H : Hp} {n : Nat} {as : List D} (h : ExW c B H0 n as) (x : Ext B H0 Hf H) : ExW c Hf H0 n as := fun _ _ od y r => h _ _ od (x.unbase y) r
theorem Out.rebase {B : Bs} {H0 Hf H : Hp} {Dn : Ends} {x : R Fl} (o : Out c B.h H0 x (GS c B H0 Dn)) (e : Ext B.h H0 Hf H) : Out c Hf H0 x (GS c ⟨Hf, B.fx⟩ H0 Dn) := by
  cases x with
  | ok fl => exact GS.rebase (show GS c B H0 Dn fl from o) e
  | ex n as => exact ExW.rebase (show ExW c B.h H0 n as from o) e
  | bad => exact o

/-! ### slots -/
theorem set_get {α : Type} {l : List α} {i j : Nat} {a b : α} (h : (l.set i a)[j]? = some b) : (j = i ∧ a = b ∧ i < l.length) ∨ (j ≠ i ∧ l[j]? = some b) := by
  by_cases e : i = j
  · subst e
    by_cases hl : i < l.length
    · rw [List.getElem?_set_self hl] at h; cases h; exact .inl ⟨rfl, rfl, hl⟩
    · rw [List.getElem?_eq_none (by simpa using hl)] at h; cases h
  · rw [List.getElem?_set_ne e] at h; exact .inr ⟨fun z => e z.symm, h⟩
theorem EnvOk.set {K : Kx} {B : Bs} {H0 Hf H : Hp} {σ : L2.St} {ρ : En} {i : Nat} {v : V} {r : SV} (I : EnvOk K B H0 Hf H σ ρ) (np : r.npin = true) (q : RepR K Hf H v r) (fr : r.own = true → ∀ p, v = .ref p → H0 p = none ∧ ∀ (j : Nat) (s : SV), ρ[j]? = some (some s) → s.own = true → σ[j]? = some (some (.ref p)) → j = i) :
    EnvOk K B H0 Hf H (σ.set i (some v)) (ρ.set i (some r)) := by
  refine ⟨I.ext, by rw [List.length_set, List.length_set, I.len], fun j s e => ?_, fun j s p e o es => ?_, fun j k sj sk p ej oj ek ok e1 e2 => ?_, fun j xs e => ?_⟩
  · rcases set_get e with ⟨rfl, e, hl⟩ | ⟨hj, e⟩
    · cases e
      exact ⟨v, List.getElem?_set_self (by rw [I.len]; exact hl), q⟩
    · rw [List.getElem?_set_ne (Ne.symm hj)]; exact I.sl j s e
  · rcases set_get e with ⟨rfl, e, hl⟩ | ⟨hj, e⟩
    · cases e
      rw [List.getElem?_set_self (by rw [I.len]; exact hl)] at es
      cases es
      exact (fr o p rfl).1
    · rw [List.getElem?_set_ne (Ne.symm hj)] at es; exact I.new j s p e o es
  · rcases set_get ej with ⟨rfl, ej, hl⟩ | ⟨hj, ej⟩
    · cases ej
      rw [List.getElem?_set_self (by rw [I.len]; exact hl)] at e1
      cases e1
      rcases set_get ek with ⟨rfl, _, _⟩ | ⟨hk, ek⟩
      · rfl
      · rw [List.getElem?_set_ne (Ne.symm hk)] at e2
        exact absurd ((fr oj p rfl).2 k sk ek ok e2) hk
    · rw [List.getElem?_set_ne (Ne.symm hj)] at e1
      have ej' := ej
      rcases set_get ek with ⟨rfl, ek, hl⟩ | ⟨hk, ek⟩
      · cases ek
        rw [List.getElem?_set_self (by rw [I.len]; exact hl)] at e2
        cases e2
        exact (fr ok p rfl).2 j sj ej' oj e1
      · rw [List.getElem?_set_ne (Ne.symm hk)] at e2
        exact I.sep j k sj sk p ej oj ek ok e1 e2
  · rcases set_get e with ⟨rfl, e, hl⟩ | ⟨hj, e⟩
    · cases e; cases np
    · rw [List.getElem?_set_ne (Ne.symm hj)]; exact I.pin j xs e
/-- an owned place is tracked: a new place is another one -/
theorem EnvOk.own_at {K : Kx} {B : Bs} {H0 Hf H : Hp} {σ : L2.St} {ρ : En} {j : Nat} {s : SV} {p : Addr} (I : EnvOk K B H0 Hf H σ ρ) (e : ρ[j]? = some (some s)) (o : s.own = true) (es : σ[j]? = some (some (.ref p))) : H p ≠ none := by
  obtain ⟨v, h1, h2⟩ := I.sl j s e
  rw [es] at h1; cases h1
  cases s with
  | d x => cases o
  | ol xs => obtain ⟨q, vs, e, h, _⟩ := h2; cases e; rw [h]; exact fun z => nomatch z
  | od xs => obtain ⟨q, vs, e, h, _⟩ := h2; cases e; rw [h]; exact fun z => nomatch z
  | pin xs => cases o
  | exn n as => cases o
  | pd kvs => cases o
  | kd xs => obtain ⟨q, ep, vs, e, h, _⟩ := h2; cases e; rw [h]; exact fun z => nomatch z
  | oi C xs => obtain ⟨q, ep, vs, e, h, _⟩ := h2; cases e; rw [h]; exact fun z => nomatch z
  | sk xs => cases o
  | sd xs => cases o
  | so C xs => cases o
theorem EnvOk.pin_ne {K : Kx} {B : Bs} {H0 Hf H : Hp} {σ : L2.St} {ρ : En} {j : Nat} {ys : List D} {q p : Addr} (I : EnvOk K B H0 Hf H σ ρ) (e : ρ[j]? = some (some (.pin ys))) (es : σ[j]? = some (some (.ref q))) (hp : H0 p = none) : q ≠ p := by
  obtain ⟨q', o, _, h2, h3, _⟩ := I.pin j ys e
  rw [es] at h2; cases h2
  rintro rfl
  rw [hp] at h3; cases h3
theorem EnvOk.set_fresh {K : Kx} {B : Bs} {H0 Hf H Hf' H' : Hp} {σ : L2.St} {ρ : En} {i : Nat} {v : V} {r : SV} (I : EnvOk K B H0 Hf H σ ρ) (np : r.npin = true) (x : Ext Hf H Hf' H') (q : RepR K Hf' H' v r) (fr : r.own = true → ∀ p, v = .ref p → H p = none) :
    EnvOk K B H0 Hf' H' (σ.set i (some v)) (ρ.set i (some r)) :=
  (I.grow x).set np q fun o p e => ⟨I.ext.h.free (fr o p e), fun j s ej oj es => absurd (fr o p e) (I.own_at ej oj es)⟩
theorem EnvOk.drop {K : Kx} {B : Bs} {H0 Hf H : Hp} {σ : L2.St} {ρ : En} (i : Nat) (I : EnvOk K B H0 Hf H σ ρ) : EnvOk K B H0 Hf H σ (ρ.set i none) := by
  have back : ∀ {j : Nat} {s : SV}, (ρ.set i none)[j]? = some (some s) → ρ[j]? = some (some s) := fun {j s} e => by
    rcases set_get e with ⟨_, e, _⟩ | ⟨_, e⟩
    · cases e
    · exact e
  exact ⟨I.ext, by rw [List.length_set, I.len], fun j s e => I.sl j s (back e), fun j s p e => I.new j s p (back e), fun j k sj sk p ej oj ek => I.sep j k sj sk p (back ej) oj (back ek), fun j xs e => I.pin j xs (back e)⟩

/-! ### blocks -/
def seqS (f g : En → R Fl) : En → R Fl := fun ρ => f ρ >>= fun fl => match fl with
  | .nx ρ' => g ρ'
  | z => .ok z
def skip : En → R Fl := fun ρ => .ok (.nx ρ)
theorem sem_skip : SemS c tNext skip := fun B H0 Hf H σ ρ Dn I o => (show GS c B H0 Dn (.nx ρ) from o) _ _ _ I
theorem sem_seq {t u : TS} {f g : En → R Fl} (h1 : SemS c t f) (h2 : SemS c u g) : SemS c (tSeq t u) (seqS f g) := by
  intro B H0 Hf H σ ρ Dn I o
  refine h1 B H0 Hf H σ ρ _ I (Out.bind o fun fl efl o1 => ?_)
  cases fl with
  | nx ρ' => exact fun Hf1 H1 σ1 I1 => h2 B H0 Hf1 H1 σ1 ρ' Dn I1 o1
  | rt r => exact o1
  | bk ρ' => exact o1
  | ct ρ' => exact o1
def ifS (t : En → R Bool) (f g : En → R Fl) : En → R Fl := fun ρ => t ρ >>= fun b => if b = true then f ρ else g ρ
theorem sem_if {t : TT} {u v : TS} {ft : En → R Bool} {f g : En → R Fl} (h : SemT c t ft) (h1 : SemS c u f) (h2 : SemS c v g) : SemS c (tIfS t u v) (ifS ft f g) := by
  intro B H0 Hf H σ ρ Dn I o
  refine h B H0 Hf H σ ρ _ I ((Out.bind o fun a ea o1 => ?_ : Out c B H0 (ft ρ) (GT Hf H fun b H1 => if b = true then u Dn σ H1 else v Dn σ H1)).here I.ext)
  intro Hf1 H1 x1
  cases a with
  | true => exact iteT (h1 B H0 Hf1 H1 σ ρ Dn (I.grow x1) o1)
  | false => exact iteF (h2 B H0 Hf1 H1 σ ρ Dn (I.grow x1) o1)
def retS (f : En → R SV) : En → R Fl := fun ρ => f ρ >>= fun r => .ok (.rt r)
theorem sem_ret {t : TE} {f : En → R SV} (h : SemE c true t f) : SemS c (tRet t) (retS f) := by
  intro B H0 Hf H σ ρ Dn I o
  refine h B H0 Hf H σ ρ _ I ((Out.bind o fun a ea o1 => ?_ : Out c B H0 (f ρ) (GE c true Hf H Dn.rt)).here I.ext)
  intro v Hf1 H1 x1 q1 fr
  exact (show GS c B H0 Dn (.rt a) from o1) v Hf1 H1 (I.ext.trans x1) q1 fun ho p e => I.ext.h.free (fr rfl ho p e)
/-- return x, x a slot (its list goes with it) -/
def retV (i : Nat) : En → R Fl := fun ρ => peek i ρ >>= fun r => .ok (.rt r)
theorem sem_retV {i : Nat} : SemS c (tRet (tVar i)) (retV i) := by
  intro B H0 Hf H σ ρ Dn I o
  unfold retV peek at o
  split at o
  · rename_i r e
    obtain ⟨v, h1, h2⟩ := I.sl i _ e
    refine ⟨v, h1, (show GS c B H0 Dn (.rt r) from o) v Hf H I.ext h2 fun ho p ev => ?_⟩
    subst ev
    exact I.new i r p e ho h1
  · exact o.elim
def retN : En → R Fl := fun ρ => .ok (.rt (.d .none))
theorem sem_retN : SemS c tRetN retN := fun B H0 Hf H σ ρ Dn I o => (show GS c B H0 Dn (.rt (.d .none)) from o) .non Hf H I.ext .non fun z => nomatch z
def brkS : En → R Fl := fun ρ => .ok (.bk ρ)
def cntS : En → R Fl := fun ρ => .ok (.ct ρ)
theorem sem_brk : SemS c tBreak brkS := fun B H0 Hf H σ ρ Dn I o => (show GS c B H0 Dn (.bk ρ) from o) _ _ _ I
theorem sem_cnt : SemS c tCont cntS := fun B H0 Hf H σ ρ Dn I o => (show GS c B H0 Dn (.ct ρ) from o) _ _ _ I
def exprS (f : En → R SV) : En → R Fl := fun ρ => f ρ >>= fun _ => .ok (.nx ρ)
theorem sem_expr {b : Bool} {t : TE} {f : En → R SV} (h : SemE c b t f) : SemS c (tDrop t) (exprS f) := by
  intro B H0 Hf H σ ρ Dn I o
  refine h B H0 Hf H σ ρ _ I ((Out.bind o fun a ea o1 => ?_ : Out c B H0 (f ρ) (GE c b Hf H fun _ H1 => Dn.nx σ H1)).here I.ext)
  intro v Hf1 H1 x1 q1 fr
  exact (show GS c B H0 Dn (.nx ρ) from o1) Hf1 H1 σ (I.grow x1)
/-- x = e -/
def asgS (i : Nat) (f : En → R SV) : En → R Fl := fun ρ => f ρ >>= fun r => if r.npin = true then .ok (.nx (ρ.set i (some r))) else .bad
theorem sem_set {i : Nat} {t : TE} {f : En → R SV} (h : SemE c true t f) : SemS c (tAsg t (gName i)) (asgS i f) := by
  intro B H0 Hf H σ ρ Dn I o
  refine h B H0 Hf H σ ρ _ I ((Out.bind o fun a ea o1 => ?_ : Out c B H0 (f ρ) (GE c true Hf H fun x H1 => gName i x σ H1 Dn.nx)).here I.ext)
  intro v Hf1 H1 x1 q1 fr
  cases np : a.npin with
  | true =>
    rw [np, if_pos rfl] at o1
    exact (show GS c B H0 Dn (.nx (ρ.set i (some a))) from o1) Hf1 H1 _ (I.set_fresh np x1 q1 (fr rfl))
  | false =>
    rw [np, if_neg Bool.false_ne_true] at o1
    exact o1.elim
/-! ### targets -/
def SemG (c : Ct) (is : List Nat) (g : TG) (k : D → En → R En) : Prop := ∀ B H0 Hf H σ ρ v d Q, EnvOk c.K B H0 Hf H σ ρ → Dp c.K Hf v d →
  (∃ ρ', k d ρ = .ok ρ' ∧ ∀ σ', σ'.length = σ.length → (∀ j, j ∉ is → σ'[j]? = σ[j]?) → EnvOk c.K B H0 Hf H σ' ρ' → Q σ' H) → g v σ H Q
def SemGs (c : Ct) (is : List Nat) (g : TGs) (k : List D → En → R En) : Prop := ∀ B H0 Hf H σ ρ vs ds Q, EnvOk c.K B H0 Hf H σ ρ → DpAll c.K Hf vs ds →
  (∃ ρ', k ds ρ = .ok ρ' ∧ ∀ σ', σ'.length = σ.length → (∀ j, j ∉ is → σ'[j]? = σ[j]?) → EnvOk c.K B H0 Hf H σ' ρ' → Q σ' H) → g vs σ H Q
def setD (i : Nat) : D → En → R En := fun d ρ => .ok (ρ.set i (some (.d d)))
theorem sem_gName {i : Nat} : SemG c [i] (gName i) (setD i) := by
  intro B H0 Hf H σ ρ v d Q I q ⟨ρ', e, h⟩
  cases e
  exact h _ (List.length_set ..) (fun j hj => List.getElem?_set_ne (by simpa using Ne.symm (by simpa using hj))) (I.set rfl q fun z => nomatch z)
def gsN : List D → En → R En
  | [], ρ => .ok ρ
  | _, _ => .bad
def gsC (k : D → En → R En) (ks : List D → En → R En) : List D → En → R En
  | d :: ds, ρ => k d ρ >>= ks ds
  | [], _ => .bad
theorem sem_gsN : SemGs c [] gNil gsN := by
  intro B H0 Hf H σ ρ vs ds Q I q ⟨ρ', e, h⟩
  cases q with
  | nil => cases e; exact ⟨rfl, h σ rfl (fun _ _ => rfl) I⟩
  | cons _ _ => cases e
theorem sem_gsC {is js : List Nat} {t : TG} {u : TGs} {k : D → En → R En} {ks : List D → En → R En} (h1 : SemG c is t k) (h2 : SemGs c js u ks) : SemGs c (is ++ js) (gCons t u) (gsC k ks) := by
  intro B H0 Hf H σ ρ vs ds Q I q ⟨ρ', e, h⟩
  cases q with
  | nil => cases e
  | cons a b =>
    unfold gsC at e
    dsimp only at e
    rename_i v vs d ds
    cases e1 : k d ρ with
    | bad => rw [e1] at e; cases e
    | ex n as => rw [e1] at e; cases e
    | ok ρ1 =>
      rw [e1, ok_bind] at e
      refine ⟨_, _, rfl, h1 B H0 Hf H σ ρ _ _ _ I a ⟨ρ1, e1, fun σ1 l1 n1 I1 => ?_⟩⟩
      refine h2 B H0 Hf H σ1 ρ1 _ _ _ I1 b ⟨ρ', e, fun σ2 l2 n2 I2 => h σ2 (l2.trans l1) (fun j hj => ?_) I2⟩
      have hj' : ¬ (j ∈ is ∨ j ∈ js) := fun z => hj (List.mem_append.mpr z)
      rw [n2 j fun z => hj' (.inr z), n1 j fun z => hj' (.inl z)]
/-- (a, b, ..) = a tuple or a list of that length -/
def gSq (K : PySem.W.Frag) (n : Nat) (t : TGs) : TG := fun v σ H Q => gTup K n t v σ H Q ∨ gUnl K n t v σ H Q
theorem pg_sq {X : Cx} {pos : Pos} {es : List Expr} {k : Nat} {t : TGs} {n : Nat} (hc : X.calm = true) (h : PGs X es t)
    (hn : (assignEach es X.env).length = n := by rfl) (hst : (assignEach es X.env).findIdx? (·.1) = none := by rfl) : PG X (.Tuple es k pos) (gSq X.K n t) := by
  refine ⟨fun pins s σ H v u Q I r hw => ?_⟩
  rcases hw with hw | hw
  · exact (pg_tup hc h hn hst).run pins s σ H v u Q I r hw
  · exact (pg_unl hc h hn hst).run pins s σ H v u Q I r hw
def tupG (n : Nat) (ks : List D → En → R En) : D → En → R En
  | .tuple ds, ρ => if ds.length = n then ks ds ρ else .bad
  | .list ds, ρ => if ds.length = n then ks ds ρ else .bad
  | _, _ => .bad
theorem sem_gTup {is : List Nat} {n : Nat} {t : TGs} {ks : List D → En → R En} (h : SemGs c is t ks) : SemG c is (gSq c.K n t) (tupG n ks) := by
  intro B H0 Hf H σ ρ v d Q I q ⟨ρ', e, h'⟩
  unfold tupG at e
  split at e
  · split at e
    · rename_i hl
      cases q with
      | tup h1 h2 => exact .inl ⟨_, _, rfl, sqT_mono I.i h1, by rw [dpAll_len h2]; exact hl, h B H0 Hf H σ ρ _ _ _ I h2 ⟨ρ', e, h'⟩⟩
    · cases e
  · split at e
    · rename_i hl
      obtain ⟨p, vs, rfl, h1, h2⟩ := rep_list (r := .d (.list _)) I.i q (.inl rfl)
      exact .inr ⟨_, _, rfl, h1, by rw [dpAll_len h2]; exact hl, h B H0 Hf H σ ρ _ _ _ I h2 ⟨ρ', e, h'⟩⟩
    · cases e
  · cases e
def asgG (k : D → En → R En) (f : En → R SV) : En → R Fl := fun ρ => f ρ >>= fun r => datS r >>= fun d => match k d ρ with
  | .ok ρ' => .ok (.nx ρ')
  | _ => .bad
theorem sem_asgG {is : List Nat} {t : TE} {g : TG} {k : D → En → R En} {f : En → R SV} (h : SemE c true t f) (hg : SemG c is g k) : SemS c (tAsg t g) (asgG k f) := by
  intro B H0 Hf H σ ρ Dn I o
  refine h B H0 Hf H σ ρ _ I ((Out.bind o fun a ea o1 => ?_ : Out c B H0 (f ρ) (GE c true Hf H fun x H1 => g x σ H1 Dn.nx)).here I.ext)
  intro v Hf1 H1 x1 q1 fr
  obtain ⟨d, e, o2⟩ := out_dat o1
  obtain ⟨Hf2, x2, q2⟩ := froze x1 q1 (fr rfl) e
  cases ek : k d ρ with
  | bad => simp only [ek] at o2; exact o2.elim
  | ex n as => simp only [ek] at o2; exact o2.elim
  | ok ρ' =>
    simp only [ek] at o2
    exact hg B H0 Hf2 H1 σ ρ v d _ (I.grow x2) q2 ⟨ρ', ek, fun σ' _ _ I' => (show GS c B H0 Dn (.nx ρ') from o2) _ _ _ I'⟩

/-! ### ghost steps -/
/-- a list of this frame is handed on for good -/
def frzE (i : Nat) (ρ : En) : En := match ρ[i]? with
  | some (some (.ol xs)) => ρ.set i (some (.d (.list xs)))
  | some (some (.kd xs)) => ρ.set i (some (.sk xs))
  | some (some (.od xs)) => ρ.set i (some (.sd xs))
  | some (some (.oi C xs)) => ρ.set i (some (.so C xs))
  | _ => ρ
/-- a slot's own thing becomes shared -/
theorem EnvOk.frzO {K : Kx} {B : Bs} {H0 Hf H : Hp} {σ : L2.St} {ρ : En} {i : Nat} {s s' : SV} {p : Addr} {o : HO} (I : EnvOk K B H0 Hf H σ ρ) (e : ρ[i]? = some (some s)) (ho : s.own = true) (h1 : σ[i]? = some (some (.ref p)))
    (h2 : H p = some o) (h3 : Hf p = none) (q : RepR K (upd Hf p o) H (.ref p) s') (hs : s'.own = false) (hp : ∀ ys, s' ≠ .pin ys) : ∃ Hf', EnvOk K B H0 Hf' H σ (ρ.set i (some s')) := by
  have hn := I.new i _ p e ho h1
  have g := upd_grow (o := o) h3
  have i' : Same (upd Hf p o) H := fun b o' eb => by
    by_cases hb : b = p
    · subst hb; rw [upd_same] at eb; cases eb; exact h2
    · rw [upd_ne hb] at eb; exact I.i _ _ eb
  refine ⟨upd Hf p o, ⟨I.ext.f.trans g, I.ext.h, i', fun b eb => ?_⟩, by rw [List.length_set, I.len], fun j s ej => ?_, fun j s q' ej oj es => ?_, fun j k sj sk q' ej oj ek ok e1 e2 => ?_, fun j ys ej => ?_⟩
  · by_cases hb : b = p
    · subst hb; exact .inr hn
    · rw [upd_ne hb] at eb; exact I.ext.n b eb
  · rcases set_get ej with ⟨rfl, ej, _⟩ | ⟨hj, ej⟩
    · cases ej
      exact ⟨_, h1, q⟩
    · obtain ⟨v, w1, w2⟩ := I.sl j s ej
      refine ⟨v, w1, ?_⟩
      cases s with
      | d x => exact dp_mono g w2
      | ol ys =>
        obtain ⟨q, us, rfl, u1, u2, u3⟩ := w2
        have hq : q ≠ p := fun z => hj (I.sep j i _ _ p ej rfl e ho (z ▸ w1) h1)
        exact ⟨q, us, rfl, u1, by rw [upd_ne hq]; exact u2, dpAll_mono g u3⟩
      | od ys =>
        obtain ⟨q, us, rfl, u1, u2, u3⟩ := w2
        have hq : q ≠ p := fun z => hj (I.sep j i _ _ p ej rfl e ho (z ▸ w1) h1)
        exact ⟨q, us, rfl, u1, by rw [upd_ne hq]; exact u2, Paired.mapP u3 fun _ _ q => ⟨q.1, dp_mono g q.2⟩⟩
      | pin ys =>
        obtain ⟨q, us, rfl, u1, u2, u3⟩ := w2
        have hq : q ≠ p := I.pin_ne ej w1 hn
        exact ⟨q, us, rfl, u1, by rw [upd_ne hq]; exact u2, dpAll_mono g u3⟩
      | exn n as => exact ⟨w2.1, w2.2.1, w2.2.2.thaw g⟩
      | pd ys =>
        obtain ⟨q, us, o', rfl, u1, u3⟩ := w2
        have hq : q ≠ p := fun z => by rw [z, h3] at u1; cases u1
        exact ⟨q, us, o', rfl, by rw [upd_ne hq]; exact u1, Paired.mapP u3 fun _ _ q => ⟨q.1, dp_mono g q.2⟩⟩
      | kd ys =>
        obtain ⟨q, ep, us, rfl, u1, u2, u3⟩ := w2
        have hq : q ≠ p := fun z => hj (I.sep j i _ _ p ej rfl e ho (z ▸ w1) h1)
        exact ⟨q, ep, us, rfl, u1, by rw [upd_ne hq]; exact u2, kdr_mono g u3⟩
      | sk ys =>
        obtain ⟨q, ep, us, rfl, u1, u3⟩ := w2
        have hq : q ≠ p := fun z => by rw [z, h3] at u1; cases u1
        exact ⟨q, ep, us, rfl, by rw [upd_ne hq]; exact u1, kdr_mono g u3⟩
      | sd ys =>
        obtain ⟨q, us, rfl, u1, u3⟩ := w2
        have hq : q ≠ p := fun z => by rw [z, h3] at u1; cases u1
        exact ⟨q, us, rfl, by rw [upd_ne hq]; exact u1, Paired.mapP u3 fun _ _ q => ⟨q.1, dp_mono g q.2⟩⟩
      | so C ys =>
        obtain ⟨q, dx, us, rfl, u1, u3⟩ := w2
        have hq : q ≠ p := fun z => by rw [z, h3] at u1; cases u1
        exact ⟨q, dx, us, rfl, by rw [upd_ne hq]; exact u1, fsr_mono g u3⟩
      | oi C ys =>
        obtain ⟨q, dx, us, rfl, u1, u2, u3⟩ := w2
        have hq : q ≠ p := fun z => hj (I.sep j i _ _ p ej rfl e ho (z ▸ w1) h1)
        exact ⟨q, dx, us, rfl, u1, by rw [upd_ne hq]; exact u2, fsr_mono g u3⟩
  · rcases set_get ej with ⟨_, ej, _⟩ | ⟨_, ej⟩
    · cases ej; rw [hs] at oj; cases oj
    · exact I.new j s q' ej oj es
  · rcases set_get ej with ⟨_, ej, _⟩ | ⟨_, ej⟩
    · cases ej; rw [hs] at oj; cases oj
    · rcases set_get ek with ⟨_, ek, _⟩ | ⟨_, ek⟩
      · cases ek; rw [hs] at ok; cases ok
      · exact I.sep j k sj sk q' ej oj ek ok e1 e2
  · rcases set_get ej with ⟨_, ej, _⟩ | ⟨_, ej⟩
    · cases ej; exact (hp ys rfl).elim
    · exact I.pin j ys ej
theorem EnvOk.frz {K : Kx} {B : Bs} {H0 Hf H : Hp} {σ : L2.St} {ρ : En} (i : Nat) (I : EnvOk K B H0 Hf H σ ρ) : ∃ Hf', EnvOk K B H0 Hf' H σ (frzE i ρ) := by
  unfold frzE
  split
  · rename_i xs e
    obtain ⟨v, h1, p, vs, rfl, h2, h3, h4⟩ := I.sl i _ e
    exact I.frzO e rfl h1 h2 h3 (show Dp K _ _ _ from .lst (.inl (.inl upd_same)) (dpAll_mono (upd_grow h3) h4)) rfl fun _ z => nomatch z
  · rename_i xs e
    obtain ⟨v, h1, p, ep, vs, rfl, h2, h3, h4⟩ := I.sl i _ e
    exact I.frzO e rfl h1 h2 h3 ⟨p, ep, vs, rfl, upd_same, kdr_mono (upd_grow h3) h4⟩ rfl fun _ z => nomatch z
  · rename_i xs e
    obtain ⟨v, h1, p, vs, rfl, h2, h3, h4⟩ := I.sl i _ e
    exact I.frzO e rfl h1 h2 h3 ⟨p, vs, rfl, upd_same, Paired.mapP h4 fun _ _ q => ⟨q.1, dp_mono (upd_grow h3) q.2⟩⟩ rfl fun _ z => nomatch z
  · rename_i C xs e
    obtain ⟨v, h1, p, dx, vs, rfl, h2, h3, h4⟩ := I.sl i _ e
    exact I.frzO e rfl h1 h2 h3 ⟨p, dx, vs, rfl, upd_same, fsr_mono (upd_grow h3) h4⟩ rfl fun _ z => nomatch z
  · exact ⟨Hf, I⟩
def frzS (is : List Nat) (f : En → R Fl) : En → R Fl := fun ρ => f (is.foldl (fun ρ i => frzE i ρ) ρ)
theorem EnvOk.frzs {K : Kx} {B : Bs} {H0 H : Hp} {σ : L2.St} : ∀ (is : List Nat) {Hf : Hp} {ρ : En}, EnvOk K B H0 Hf H σ ρ → ∃ Hf', EnvOk K B H0 Hf' H σ (is.foldl (fun ρ i => frzE i ρ) ρ)
  | [], _, _, I => ⟨_, I⟩
  | i :: is, _, _, I => by
    obtain ⟨_, I'⟩ := I.frz i
    exact EnvOk.frzs is I'
theorem sem_frz {is : List Nat} {t : TS} {f : En → R Fl} (h : SemS c t f) : SemS c t (frzS is f) := by
  intro B H0 Hf H σ ρ Dn I o
  obtain ⟨Hf', I'⟩ := I.frzs is
  exact h B H0 Hf' H σ _ Dn I' o
def killE (is : List Nat) (ρ : En) : En := is.foldl (fun ρ i => ρ.set i none) ρ
theorem EnvOk.kill {K : Kx} {B : Bs} {H0 Hf H : Hp} {σ : L2.St} : ∀ (is : List Nat) {ρ : En}, EnvOk K B H0 Hf H σ ρ → EnvOk K B H0 Hf H σ (killE is ρ)
  | [], _, I => I
  | i :: is, _, I => EnvOk.kill is (I.drop i)
def kill (is : List Nat) (f : En → R Fl) : En → R Fl := fun ρ => f ρ >>= fun fl => match fl with
  | .nx ρ' => .ok (.nx (killE is ρ'))
  | .ct ρ' => .ok (.ct (killE is ρ'))
  | .bk ρ' => .ok (.bk (killE is ρ'))
  | z => .ok z
theorem sem_kill {is : List Nat} {t : TS} {f : En → R Fl} (h : SemS c t f) : SemS c t (kill is f) := by
  intro B H0 Hf H σ ρ Dn I o
  refine h B H0 Hf H σ ρ Dn I (Out.bind o fun fl efl o1 => ?_)
  cases fl with
  | nx ρ' => exact fun Hf1 H1 σ1 I1 => (show GS c B H0 Dn (.nx (killE is ρ')) from o1) _ _ _ (I1.kill is)
  | ct ρ' => exact fun Hf1 H1 σ1 I1 => (show GS c B H0 Dn (.ct (killE is ρ')) from o1) _ _ _ (I1.kill is)
  | bk ρ' => exact fun Hf1 H1 σ1 I1 => (show GS c B H0 Dn (.bk (killE is ρ')) from o1) _ _ _ (I1.kill is)
  | rt r => exact o1

/-! ### while -/
def whileF (n : Nat) (t : En → R Bool) (b : En → R Fl) (ρ : En) : R Fl := match n with
  | 0 => .bad
  | n + 1 => t ρ >>= fun k => if k = true then b ρ >>= fun fl => match fl with
      | .nx ρ' => whileF n t b ρ'
      | .ct ρ' => whileF n t b ρ'
      | .bk ρ' => .ok (.nx ρ')
      | .rt r => .ok (.rt r)
    else .ok (.nx ρ)
def whileS (μ : En → Nat) (t : En → R Bool) (b : En → R Fl) : En → R Fl := fun ρ => whileF (μ ρ) t b ρ
theorem sem_while {μ : En → Nat} {tc : TT} {tb : TS} {t : En → R Bool} {b : En → R Fl} (ht : SemT c tc t) (hb : SemS c tb b) : SemS c (tWhile tc tb) (whileS μ t b) := by
  intro B H0 Hf H σ ρ Dn I o
  refine ⟨fun m σ H => ∃ Hf ρ, EnvOk c.K B H0 Hf H σ ρ ∧ Out c B H0 (whileF m t b ρ) (GS c B H0 Dn), ⟨μ ρ, Hf, ρ, I, o⟩, ?_⟩
  rintro m σ H ⟨Hf, ρ, I, o⟩
  cases m with
  | zero => exact o.elim
  | succ m =>
    unfold whileF at o
    refine ht B H0 Hf H σ ρ _ I ((Out.bind o fun k ek o1 => ?_ : Out c B H0 (t ρ) (GT Hf H _)).here I.ext)
    intro Hf1 H1 x1
    cases k with
    | false => exact iteF ((show GS c B H0 Dn (.nx ρ) from o1) _ _ _ (I.grow x1))
    | true =>
      refine iteT ⟨fun σ' H' => ∃ Hf ρ, EnvOk c.K B H0 Hf H' σ' ρ ∧ Out c B H0 (whileF m t b ρ) (GS c B H0 Dn), fun σ' H' h => ⟨m, Nat.lt_succ_self _, h⟩, ?_⟩
      refine hb B H0 Hf1 H1 σ ρ _ (I.grow x1) (Out.bind o1 fun fl efl o2 => ?_)
      cases fl with
      | nx ρ' => exact fun Hf2 H2 σ2 I2 => ⟨Hf2, ρ', I2, o2⟩
      | ct ρ' => exact fun Hf2 H2 σ2 I2 => ⟨Hf2, ρ', I2, o2⟩
      | bk ρ' => exact fun Hf2 H2 σ2 I2 => (show GS c B H0 Dn (.nx ρ') from o2) _ _ _ I2
      | rt r => exact o2

/-! ### what is walked -/
def Walks (K : PySem.W.Frag) (J : It) (Hf : Hp) (xs : List D) : Prop := ∃ Y, Walk J xs.length (fun H => Same Hf H) Y ∧
  ∀ i H x H' Hfi, i < xs.length → Same Hf Hfi → Same Hfi H → Y i H x H' → ∃ d Hf', xs[i]? = some d ∧ Ext Hfi H Hf' H' ∧ Dp K Hf' x d
def SemI (c : Ct) (wi : TI) (f : En → R (List D)) : Prop := ∀ B H0 Hf H σ ρ Rr, EnvOk c.K B H0 Hf H σ ρ → Out c Hf H (f ρ) (fun xs => ∀ J Hf' H', Ext Hf H Hf' H' → Walks c.K J Hf' xs → Rr J H') → wi σ H Rr
theorem walks_at {K : PySem.W.Frag} {J : It} {Hf : Hp} {vs : List V} {xs : List D} (h : DpAll K Hf vs xs) (w : Walk J vs.length (fun H => Same Hf H) (YAt vs)) : Walks K J Hf xs := by
  refine ⟨YAt vs, by rw [← dpAll_len h]; exact w, fun i H x H' Hfi hi s1 s2 y => ?_⟩
  obtain ⟨rfl, e⟩ := y
  obtain ⟨d, e1, e2⟩ := dpAll_getV h e
  exact ⟨d, Hfi, e1, .refl s2, dp_mono s1 e2⟩
def seqD (f : En → R SV) : En → R (List D) := fun ρ => f ρ >>= fun a => match a with
  | .d (.list xs) => .ok xs
  | .ol xs => .ok xs
  | .d (.tuple xs) => .ok xs
  | .d (.str z) => .ok (z.cps.toList.map fun n => .str ⟨#[n]⟩)
  | _ => .bad
theorem PI.or {X : Cx} {tg l : Expr} {w1 w2 : TI} (h1 : PI X tg l w1) (h2 : PI X tg l w2) : PI X tg l (fun σ H Rr => w1 σ H Rr ∨ w2 σ H Rr) := ⟨fun pins s σ H Rr I q => q.elim (h1.run pins s σ H Rr I) (h2.run pins s σ H Rr I)⟩
abbrev iSeq (K : PySem.W.Frag) (te : TE) : TI := fun σ H Rr => iList K te σ H Rr ∨ (iTup K te σ H Rr ∨ iStr te σ H Rr)
theorem pi_seq {X : Cx} {tg l : Expr} {te : TE} (h : PE X l te) : PI X tg l (iSeq X.K te) := Pl.PI.or (pi_list h) (Pl.PI.or (pi_tup h) (pi_str h))
theorem sem_seqI {te : TE} {f : En → R SV} (h : SemE c true te f) : SemI c (iSeq c.K te) (seqD f) := by
  intro B H0 Hf H σ ρ Rr I o
  have lists : ∀ (r : SV) (xs : List D), (r = .d (.list xs) ∨ r = .ol xs) → f ρ = .ok r → (∀ J Hf' H', Ext Hf H Hf' H' → Walks c.K J Hf' xs → Rr J H') → iSeq c.K te σ H Rr := by
    intro r xs er ef k
    refine .inl (h B H0 Hf H σ ρ _ I ?_)
    rw [ef]
    intro v Hf1 H1 x1 q1 fr
    obtain ⟨Hf2, x2, q2⟩ := froze (d := .list xs) x1 q1 (fr rfl) (by rcases er with rfl | rfl <;> rfl)
    cases q2 with
    | lst s1 s2 => exact ⟨_, rfl, ⟨_, x2.i.seq s1⟩, k _ Hf2 H1 x2 (walks_at s2 (walk_list.mono (fun H e => e.seq s1) fun _ _ _ _ _ _ y => y))⟩
  unfold seqD at o
  cases ef : f ρ with
  | bad => rw [ef] at o; exact o.elim
  | ex n as =>
    rw [ef] at o
    refine .inl (h B H0 Hf H σ ρ _ I ?_)
    rw [ef]; exact o
  | ok r =>
    rw [ef, ok_bind] at o
    split at o
    · exact lists _ _ (.inl rfl) ef o
    · exact lists _ _ (.inr rfl) ef o
    · refine .inr (.inl (h B H0 Hf H σ ρ _ I ?_))
      rw [ef]
      intro v Hf1 H1 x1 q1 fr
      cases q1 with
      | tup s1 s2 => exact ⟨_, rfl, ⟨_, sqT_mono x1.i s1⟩, (show ∀ J Hf' H', Ext Hf H Hf' H' → Walks c.K J Hf' _ → Rr J H' from o) _ Hf1 H1 x1 (walks_at s2 (walk_tup.mono (fun H e => sqT_mono e s1) fun _ _ _ _ _ _ y => y))⟩
    · rename_i z
      refine .inr (.inr (h B H0 Hf H σ ρ _ I ?_))
      rw [ef]
      intro v Hf1 H1 x1 q1 fr
      cases q1 with
      | str _ =>
        refine ⟨_, rfl, (show ∀ J Hf' H', Ext Hf H Hf' H' → Walks c.K J Hf' _ → Rr J H' from o) _ Hf1 H1 x1 ⟨fun i H v H' => H' = H ∧ ∃ c, z.cps[i]? = some c ∧ v = .str ⟨#[c]⟩, ?_, fun i H2 x H' Hfi hi s1 s2 y => ?_⟩⟩
        · have w := @walk_str z
          rw [List.length_map, Array.length_toList]
          exact w.mono (Y' := fun i H v H' => H' = H ∧ ∃ c, z.cps[i]? = some c ∧ v = .str ⟨#[c]⟩) (fun _ _ => trivial) fun _ _ _ _ _ _ y => y
        · obtain ⟨rfl, n, e1, rfl⟩ := y
          exact ⟨.str ⟨#[n]⟩, Hfi, by rw [List.getElem?_map, Array.getElem?_toList, e1] <;> rfl, .refl s2, .str _⟩
    · exact o.elim
def rng (lo hi : Int) : List D := (List.range (hi - lo).toNat).map fun k => .int (lo + (k : Nat))
def okR (j : Int) : Bool := Nat.blt j.natAbs 4611686018427387904
theorem okR_of {j : Int} (h0 : -1000000000000 ≤ j) (h1 : j ≤ 1000000000000) : okR j = true := by
  unfold okR Nat.blt
  rw [Nat.ble_eq]; omega
theorem okR_ok {j : Int} (h : okR j = true) : -(2 ^ 62) ≤ j ∧ j < 2 ^ 62 := by
  unfold okR Nat.blt at h
  rw [Nat.ble_eq] at h
  omega
def rngD1 (f : En → R (List SV)) : En → R (List D) := fun ρ => f ρ >>= fun a => match a with
  | [.d (.int j)] => if okR j = true then .ok (rng 0 j) else .bad
  | _ => .bad
def rngD2 (f : En → R (List SV)) : En → R (List D) := fun ρ => f ρ >>= fun a => match a with
  | [.d (.int i), .d (.int j)] => if okR i = true ∧ okR j = true then .ok (rng i j) else .bad
  | _ => .bad
theorem walks_rng {K : PySem.W.Frag} {Hf : Hp} {lo hi : Int} : Walks K (Itr lo (hi - lo).toNat) Hf (rng lo hi) := by
  refine ⟨YFn fun i => .int (lo + i), ?_, fun i H x H' Hfi hl s1 s2 y => ?_⟩
  · have w := @walk_range lo (hi - lo).toNat
    unfold rng
    rw [List.length_map, List.length_range]
    exact w.mono (fun _ _ => trivial) fun _ _ _ _ _ _ y => y
  · obtain ⟨rfl, rfl⟩ := y
    unfold rng at hl ⊢
    rw [List.length_map] at hl
    refine ⟨.int (lo + (i : Nat)), Hfi, ?_, .refl s2, .int _⟩
    rw [List.getElem?_map, List.getElem?_range (by simpa using hl)] <;> rfl
theorem sem_rng1 {t : TA} {f : En → R (List SV)} (h : SemB c t f) : SemI c (iRng1 t) (rngD1 f) := by
  intro B H0 Hf H σ ρ Rr I o
  refine h B H0 Hf H σ ρ _ I (Out.bind o fun rs ers o1 => fun vs Hf1 H1 x1 q1 => ?_)
  split at o1
  · rename_i j
    split at o1
    · rename_i hj
      cases q1 with
      | cons a b =>
        cases b; cases a
        refine ⟨_, rfl, (okR_ok hj).1, (okR_ok hj).2, (show ∀ J Hf' H', Ext Hf H Hf' H' → Walks c.K J Hf' _ → Rr J H' from o1) _ Hf1 H1 x1 ?_⟩
        have w := @walks_rng c.K Hf1 0 j
        rw [show (j - 0).toNat = j.toNat by simp] at w
        exact w
    · exact o1.elim
  · exact o1.elim
theorem sem_rng2 {t : TA} {f : En → R (List SV)} (h : SemB c t f) : SemI c (iRng2 t) (rngD2 f) := by
  intro B H0 Hf H σ ρ Rr I o
  refine h B H0 Hf H σ ρ _ I (Out.bind o fun rs ers o1 => fun vs Hf1 H1 x1 q1 => ?_)
  split at o1
  · split at o1
    · rename_i hj
      cases q1 with
      | cons a b =>
        cases b with
        | cons b d =>
          cases d; cases a; cases b
          exact ⟨_, _, rfl, ⟨(okR_ok hj.1).1, (okR_ok hj.1).2, (okR_ok hj.2).1, (okR_ok hj.2).2⟩, (show ∀ J Hf' H', Ext Hf H Hf' H' → Walks c.K J Hf' _ → Rr J H' from o1) _ Hf1 H1 x1 walks_rng⟩
    · exact o1.elim
  · exact o1.elim

/-! ### for -/
def forF (k : D → En → R En) (b : En → R Fl) : List D → En → R Fl
  | [], ρ => .ok (.nx ρ)
  | x :: xs, ρ => match k x ρ with
    | .ok ρ1 => b ρ1 >>= fun fl => match fl with
      | .nx ρ2 => forF k b xs ρ2
      | .ct ρ2 => forF k b xs ρ2
      | .bk ρ2 => .ok (.nx ρ2)
      | .rt r => .ok (.rt r)
    | _ => .bad
def forS (fi : En → R (List D)) (k : D → En → R En) (b : En → R Fl) : En → R Fl := fun ρ => fi ρ >>= fun xs => forF k b xs ρ
theorem sem_for {is : List Nat} {wi : TI} {g : TG} {tb : TS} {fi : En → R (List D)} {k : D → En → R En} {b : En → R Fl} (hi : SemI c wi fi) (hg : SemG c is g k) (hb : SemS c tb b) : SemS c (tFor wi g tb) (forS fi k b) := by
  intro B H0 Hf H σ ρ Dn I o
  unfold forS at o
  refine hi B H0 Hf H σ ρ _ I ((Out.bind o fun xs exs o1 => ?_ : Out c B H0 (fi ρ) _).here I.ext)
  intro J Hf1 H1 x1 ⟨Y, w, hy⟩
  have I1 := I.grow x1
  refine for_it w (fun i σ H => i ≤ xs.length ∧ ∃ Hfi ρ, Same Hf1 Hfi ∧ EnvOk c.K B H0 Hfi H σ ρ ∧ Out c B H0 (forF k b (xs.drop i) ρ) (GS c B H0 Dn)) ⟨Nat.zero_le _, Hf1, ρ, .refl _, I1, o1⟩ (fun i σ H _ ⟨_, Hfi, ρ, s, I, _⟩ => s.trans I.i) ?_ ?_
  · rintro i x σ H H' hlt ⟨_, Hfi, ρ, s, I, o⟩ y
    obtain ⟨d, Hf', e1, x2, q⟩ := hy i H x H' Hfi hlt s I.i y
    have ed : xs.drop i = d :: xs.drop (i + 1) := by
      rw [List.drop_eq_getElem_cons hlt]
      rw [List.getElem?_eq_getElem hlt] at e1
      cases e1; rfl
    rw [ed] at o
    unfold forF at o
    have I2 := I.grow x2
    cases ek : k d ρ with
    | bad => simp only [ek] at o; exact o.elim
    | ex n as => simp only [ek] at o; exact o.elim
    | ok ρ1 =>
      simp only [ek] at o
      refine hg B H0 Hf' H' σ ρ x d _ I2 q ⟨ρ1, ek, fun σ1 _ _ I3 => ?_⟩
      have s' : Same Hf1 Hf' := s.trans x2.f
      have xb : Ext B.h H0 Hf' H' := I2.ext
      refine hb ⟨Hf', B.fx⟩ H0 Hf' H' σ1 ρ1 _ I3.rebase ?_
      cases eb : b ρ1 with
      | bad => rw [eb] at o; exact o.elim
      | ex n as => rw [eb] at o; exact ExW.rebase (show ExW c B.h H0 n as from o) xb
      | ok fl =>
        rw [eb] at o
        cases fl with
        | nx ρ2 => exact fun Hf2 H2 σ2 J2 => ⟨hlt, Hf2, ρ2, s'.trans J2.ext.f, J2.unbase xb, o⟩
        | ct ρ2 => exact fun Hf2 H2 σ2 J2 => ⟨hlt, Hf2, ρ2, s'.trans J2.ext.f, J2.unbase xb, o⟩
        | bk ρ2 => exact fun Hf2 H2 σ2 J2 => (show GS c B H0 Dn (.nx ρ2) from o) _ _ _ (J2.unbase xb)
        | rt r => exact GS.rebase (show GS c B H0 Dn (.rt r) from o) xb
  · rintro σ H ⟨_, Hfi, ρ, s, I, o⟩
    rw [List.drop_length] at o
    exact (show GS c B H0 Dn (.nx ρ) from o) _ _ _ I

/-! ### comprehensions -/
def wipeE (ρ : En) : List Nat → En
  | [] => ρ
  | v :: vs => (wipeE ρ vs).set v none
theorem wipeE_len (ρ : En) : ∀ vs : List Nat, (wipeE ρ vs).length = ρ.length
  | [] => rfl
  | v :: vs => by unfold wipeE; rw [List.length_set, wipeE_len ρ vs]
theorem wipeE_some {ρ : En} {i : Nat} {x : SV} : ∀ {vs : List Nat}, (wipeE ρ vs)[i]? = some (some x) → ρ[i]? = some (some x) ∧ i ∉ vs
  | [], h => ⟨h, by simp⟩
  | v :: vs, h => by
    unfold wipeE at h
    rcases set_get h with ⟨_, h, _⟩ | ⟨hi, h⟩
    · cases h
    · obtain ⟨h1, h2⟩ := wipeE_some h
      exact ⟨h1, by simp only [List.mem_cons, not_or]; exact ⟨hi, h2⟩⟩
theorem wipe_at (σ : L2.St) {i : Nat} : ∀ {vs : List Nat}, i ∉ vs → (wipe σ vs)[i]? = σ[i]?
  | [], _ => rfl
  | v :: vs, h => by
    simp only [List.mem_cons, not_or] at h
    unfold wipe
    rw [List.getElem?_set_ne (Ne.symm h.1), wipe_at σ h.2]
theorem wipe_in (σ : L2.St) {i : Nat} : ∀ {vs : List Nat}, i ∈ vs → (wipe σ vs)[i]? = if i < σ.length then some none else none
  | v :: vs, h => by
    unfold wipe
    by_cases e : v = i
    · subst e
      by_cases hl : v < σ.length
      · rw [List.getElem?_set_self (by rw [wipe_length]; exact hl), if_pos hl]
      · rw [if_neg hl, List.getElem?_eq_none (by rw [List.length_set, wipe_length]; omega)]
    · rw [List.getElem?_set_ne e]
      exact wipe_in σ ((List.mem_cons.mp h).elim (fun z => absurd z.symm e) id)
theorem EnvOk.wipe {K : Kx} {B : Bs} {H0 Hf H : Hp} {σ : L2.St} {ρ : En} (vs : List Nat) (I : EnvOk K B H0 Hf H σ ρ) : EnvOk K B H0 Hf H (L2.wipe σ vs) (wipeE ρ vs) :=
  ⟨I.ext, by rw [wipe_length, wipeE_len, I.len], fun j s e => by
      obtain ⟨h1, h2⟩ := wipeE_some e
      rw [wipe_at σ h2]; exact I.sl j s h1,
    fun j s p e o es => by
      obtain ⟨h1, h2⟩ := wipeE_some e
      rw [wipe_at σ h2] at es; exact I.new j s p h1 o es,
    fun j k sj sk p ej oj ek ok e1 e2 => by
      obtain ⟨h1, h2⟩ := wipeE_some ej
      obtain ⟨h3, h4⟩ := wipeE_some ek
      rw [wipe_at σ h2] at e1
      rw [wipe_at σ h4] at e2
      exact I.sep j k sj sk p h1 oj h3 ok e1 e2,
    fun j xs e => by
      obtain ⟨h1, h2⟩ := wipeE_some e
      rw [wipe_at σ h2]; exact I.pin j xs h1⟩
theorem wipe_back {σ σ2 : L2.St} {is vs : List Nat} (hl : σ2.length = (wipe σ vs).length) (h : ∀ j, j ∉ is → σ2[j]? = (wipe σ vs)[j]?) (hs : ∀ i ∈ is, i ∈ vs) : wipe σ2 vs = wipe σ vs := by
  apply List.ext_getElem?
  intro j
  by_cases hj : j ∈ vs
  · rw [wipe_in σ2 hj, wipe_in σ hj, hl, wipe_length]
  · rw [wipe_at σ2 hj, h j (fun z => hj (hs j z))]
def lcF (k : D → En → R En) (t : En → R Bool) (e : En → R SV) (ρ0 : En) : List D → R (List D)
  | [] => .ok []
  | x :: xs => match k x ρ0 with
    | .ok ρ1 => t ρ1 >>= fun b => if b = true then e ρ1 >>= fun r => datS r >>= fun y => lcF k t e ρ0 xs >>= fun ys => .ok (y :: ys) else lcF k t e ρ0 xs
    | _ => .bad
def lcE (fi : En → R (List D)) (k : D → En → R En) (t : En → R Bool) (e : En → R SV) (vs : List Nat) : En → R SV := fun ρ => fi ρ >>= fun xs => if xs.length < sizeLine then lcF k t e (wipeE ρ vs) xs >>= fun ys => .ok (.ol ys) else .bad
def yesT : En → R Bool := fun _ => .ok true
theorem sem_yes : SemT c tYes yesT := fun B H0 Hf H σ ρ Q I o => (show GT Hf H Q true from o) _ _ (.refl I.i)
theorem sem_lc {is : List Nat} {wi : TI} {g : TG} {tt : TT} {te : TE} {vs : List Nat} {fi : En → R (List D)} {k : D → En → R En} {t : En → R Bool} {e : En → R SV} (hi : SemI c wi fi) (hg : SemG c is g k) (ht : SemT c tt t) (he : SemE c true te e) (hs : ∀ i ∈ is, i ∈ vs) :
    SemE c true (tLc wi g tt te vs) (lcE fi k t e vs) := by
  intro B H0 Hf H σ ρ Q I o
  unfold lcE at o
  refine hi B H0 Hf H σ ρ _ I (Out.bind o fun xs exs o1 => ?_)
  intro J Hf1 H1 x1 ⟨Y, w, hy⟩ Dd hD
  split at o1
  rotate_left
  · exact o1.elim
  rename_i hlen
  have I1 := I.grow x1
  have W := I1.wipe vs
  have hDf : Hf1 Dd = none := I1.i.free hD
  have g0 : Same H1 (upd H1 Dd (.lst [])) := upd_grow hD
  refine lc_it w (fun i H2 => i ≤ xs.length ∧ ∃ Hfi acc ds, Ext Hf1 H1 Hfi H2 ∧ H2 Dd = some (.lst acc) ∧ Hfi Dd = none ∧ DpAll c.K Hfi acc ds ∧ ds.length ≤ i ∧
    Out c Hf H (lcF k t e (wipeE ρ vs) (xs.drop i)) (fun ys => GE c true Hf H Q (.ol (ds ++ ys)))) ⟨Nat.zero_le _, Hf1, [], [], .fresh x1.i hD, upd_same, hDf, .nil, Nat.zero_le _, ?_⟩ (fun i H2 _ ⟨_, Hfi, acc, ds, x2, _⟩ => x2.f.trans x2.i) ?_ ?_
  · rw [List.drop_zero]
    refine Out.bind o1 fun ys _ o2 => ?_
    rw [List.nil_append]; exact o2
  · rintro i x H2 H' hlt ⟨_, Hfi, acc, ds, x2, hacc, hfd, hds, hlen2, o2⟩ y
    obtain ⟨d, Hf', e1, x3, q⟩ := hy i H2 x H' Hfi hlt x2.f x2.i y
    have ed : xs.drop i = d :: xs.drop (i + 1) := by
      rw [List.drop_eq_getElem_cons hlt]
      rw [List.getElem?_eq_getElem hlt] at e1
      cases e1; rfl
    rw [ed] at o2
    unfold lcF at o2
    have x4 := x2.trans x3
    have X4 := x1.trans x4
    cases ek : k d (wipeE ρ vs) with
    | bad => simp only [ek] at o2; exact o2.elim
    | ex n as => simp only [ek] at o2; exact o2.elim
    | ok ρ1 =>
      simp only [ek] at o2
      refine hg B H0 Hf' H' (wipe σ vs) (wipeE ρ vs) x d _ (W.grow x4) q ⟨ρ1, ek, fun σ2 l2 n2 I2 => ⟨wipe_back l2 n2 hs, ?_⟩⟩
      refine ht B H0 Hf' H' σ2 ρ1 _ I2 (Out.bind (o2.grow X4 fun _ z => z) fun b eb o3 => ?_)
      intro Hf5 H5 x5
      have hacc' := x3.h _ _ hacc
      cases b with
      | false =>
        refine iteF ⟨hlt, Hf5, acc, ds, x4.trans x5, x5.h _ _ hacc', x5.still hacc' (x3.still hacc hfd), dpAll_mono (x3.f.trans x5.f) hds, by omega, ?_⟩
        have o4 : Out c Hf' H' (lcF k t e (wipeE ρ vs) (xs.drop (i + 1))) (fun ys => GE c true Hf H Q (.ol (ds ++ ys))) := o3
        cases el : lcF k t e (wipeE ρ vs) (xs.drop (i + 1)) with
        | ok ys => rw [el] at o4; exact o4
        | bad => rw [el] at o4; exact o4
        | ex n as => simp only [el, eb, ok_bind, Bool.false_eq_true, if_false] at o2; exact o2
      | true =>
        refine iteT (he B H0 Hf5 H5 σ2 ρ1 _ (I2.grow x5) (Out.bind (o3.grow x5 fun _ z => z) fun r er o4 => ?_))
        intro v Hf6 H6 x6 q6 fr
        obtain ⟨y', ey, o5⟩ := out_dat o4
        obtain ⟨Hf7, x7, q7⟩ := froze x6 q6 (fr rfl) ey
        have hacc5 := x5.h _ _ hacc'
        have hacc6 := x7.h _ _ hacc5
        have hfd7 : Hf7 Dd = none := x7.still hacc5 (x5.still hacc' (x3.still hacc hfd))
        have X7 := (x4.trans x5).trans x7
        refine ⟨acc, hacc6, ?_, hlt, Hf7, acc ++ [v], ds ++ [y'], ⟨X7.f, fun b o e => ?_, fun b o e => ?_, X7.n⟩, upd_same, hfd7, dpAll_append (dpAll_mono ((x3.f.trans x5.f).trans x7.f) hds) (.cons q7 .nil), ?_, ?_⟩
        · rw [dpAll_len hds]; omega
        · rw [upd_ne (ne_of_none e hD)]; exact X7.h _ _ e
        · rw [upd_ne (ne_of_none e hfd7)]; exact X7.i _ _ e
        · rw [List.length_append]; show ds.length + 1 ≤ i + 1; omega
        · simp only [eb, er, ey, ok_bind, if_true] at o2
          cases el : lcF k t e (wipeE ρ vs) (xs.drop (i + 1)) with
          | ok ys =>
            rw [el] at o2
            show GE c true Hf H Q (.ol (ds ++ [y'] ++ ys))
            rw [List.append_assoc]; exact o2
          | bad => rw [el] at o2; exact o2
          | ex n as => rw [el] at o2; exact o2
  · rintro H2 ⟨_, Hfi, acc, ds, x2, hacc, hfd, hds, _, o2⟩
    rw [List.drop_length] at o2
    have o3 : GE c true Hf H Q (.ol (ds ++ [])) := o2
    rw [List.append_nil] at o3
    exact o3 _ _ _ (x1.trans x2) ⟨Dd, acc, rfl, hacc, hfd, hds⟩ fun _ _ p e => by cases e; exact x1.h.free hD

/-! ### x.append(e) -/
def appS (i : Nat) (f : En → R SV) : En → R Fl := fun ρ => match ρ[i]? with
  | some (some (.ol xs)) => f ρ >>= fun r => datS r >>= fun d => if xs.length < sizeLine then .ok (.nx (ρ.set i (some (.ol (xs ++ [d]))))) else .bad
  | _ => .bad
theorem sem_app {i : Nat} {t : TE} {f : En → R SV} (h : SemE c true t f) : SemS c (tDrop (tBM c.K "list" rAppend (tVar i) (tCons t tNil))) (appS i f) := by
  intro B H0 Hf H σ ρ Dn I o
  unfold appS at o
  split at o
  rotate_left
  · exact o.elim
  rename_i xs e
  obtain ⟨v, h1, p, vs, rfl, h2, h3, h4⟩ := I.sl i _ e
  refine ⟨.ref p, h1, .inl ⟨rfl, vs, .inl (.inl h2)⟩, ?_⟩
  refine h B H0 Hf H σ ρ _ I ((Out.bind o fun a ea o1 => ?_ : Out c B H0 (f ρ) (GE c true Hf H _)).here I.ext)
  intro u Hf1 H1 x1 q1 fr
  obtain ⟨d, ed, o2⟩ := out_dat o1
  obtain ⟨Hf2, x2, q2⟩ := froze x1 q1 (fr rfl) ed
  split at o2
  rotate_left
  · exact o2.elim
  rename_i hlen
  have h2' := x2.h _ _ h2
  have h3' := x2.still h2 h3
  refine ⟨p, vs, u, rfl, rfl, h2', by rw [dpAll_len h4]; exact hlen, ?_⟩
  have I2 := I.grow x2
  have hn := I.new i _ p e rfl h1
  have hi : i < ρ.length := (List.getElem?_eq_some_iff.mp e).1
  refine (show GS c B H0 Dn (.nx (ρ.set i (some (.ol (xs ++ [d]))))) from o2) Hf2 _ σ ⟨⟨I2.ext.f, fun b o eb => ?_, fun b o eb => ?_, I2.ext.n⟩, by rw [List.length_set]; exact I2.len, fun j s ej => ?_, fun j s q ej oj es => ?_, fun j k sj sk q ej oj ek ok e1 e2 => ?_, fun j ys ej => ?_⟩
  · rw [upd_ne (ne_of_none eb hn)]; exact I2.ext.h _ _ eb
  · rw [upd_ne (ne_of_none eb h3')]; exact I2.i _ _ eb
  · rcases set_get ej with ⟨rfl, ej, _⟩ | ⟨hj, ej⟩
    · cases ej
      exact ⟨_, h1, p, _, rfl, upd_same, h3', dpAll_append (dpAll_mono x2.f h4) (.cons q2 .nil)⟩
    · obtain ⟨w, w1, w2⟩ := I2.sl j s ej
      refine ⟨w, w1, ?_⟩
      cases s with
      | d x => exact w2
      | ol ys =>
        obtain ⟨q, us, rfl, u1, u2⟩ := w2
        have hq : q ≠ p := fun z => hj (I2.sep j i _ _ p ej rfl e rfl (z ▸ w1) h1)
        exact ⟨q, us, rfl, by rw [upd_ne hq]; exact u1, u2⟩
      | od ys =>
        obtain ⟨q, us, rfl, u1, u2⟩ := w2
        have hq : q ≠ p := fun z => hj (I2.sep j i _ _ p ej rfl e rfl (z ▸ w1) h1)
        exact ⟨q, us, rfl, by rw [upd_ne hq]; exact u1, u2⟩
      | pin ys =>
        obtain ⟨q, us, rfl, u1, u2⟩ := w2
        have hq : q ≠ p := I2.pin_ne ej w1 hn
        exact ⟨q, us, rfl, by rw [upd_ne hq]; exact u1, u2⟩
      | exn n as => exact ⟨w2.1, w2.2.1, w2.2.2.upd h2'⟩
      | pd ys => exact w2
      | kd ys =>
        obtain ⟨q, ep, us, rfl, u1, u2⟩ := w2
        have hq : q ≠ p := fun z => hj (I2.sep j i _ _ p ej rfl e rfl (z ▸ w1) h1)
        exact ⟨q, ep, us, rfl, by rw [upd_ne hq]; exact u1, u2⟩
      | sk ys => exact w2
      | sd ys => exact w2
      | so C fs => exact w2
      | oi C fs =>
        obtain ⟨q, dx, us, rfl, u1, u2⟩ := w2
        have hq : q ≠ p := fun z => hj (I2.sep j i _ _ p ej rfl e rfl (z ▸ w1) h1)
        exact ⟨q, dx, us, rfl, by rw [upd_ne hq]; exact u1, u2⟩
  · rcases set_get ej with ⟨rfl, ej, _⟩ | ⟨_, ej⟩
    · rw [h1] at es; cases es; exact hn
    · exact I2.new j s q ej oj es
  · have old : ∀ {j : Nat} {s : SV}, (ρ.set i (some (.ol (xs ++ [d]))))[j]? = some (some s) → s.own = true → ∃ s', ρ[j]? = some (some s') ∧ s'.own = true := by
      intro j s ej oj
      rcases set_get ej with ⟨rfl, _, _⟩ | ⟨_, ej⟩
      · exact ⟨_, e, rfl⟩
      · exact ⟨s, ej, oj⟩
    obtain ⟨sj', a1, a2⟩ := old ej oj
    obtain ⟨sk', b1, b2⟩ := old ek ok
    exact I2.sep j k sj' sk' q a1 a2 b1 b2 e1 e2
  · rcases set_get ej with ⟨_, ej, _⟩ | ⟨_, ej⟩
    · cases ej
    · exact I2.pin j ys ej
end

/-! ### a def -/
def startE (N : Nat) (ds : List D) : En := (ds.map fun d => some (.d d)) ++ List.replicate (N - ds.length) none
def runB (n N : Nat) (f : En → R Fl) (ds : List D) : R SV := if ds.length = n then f (startE N ds) >>= fun fl => match fl with
  | .rt r => .ok r
  | .nx _ => .ok (.d .none)
  | _ => .bad else .bad
theorem start_ok {K : Kx} {Hf H : Hp} {N : List Str} {vs : List V} {ds : List D} (i : Same Hf H) (h : DpAll K Hf vs ds) : EnvOk K ⟨Hf, fun _ => .non⟩ H Hf H (L2.start N vs) (startE N.length ds) := by
  have hl := dpAll_len h
  have none_own : ∀ {j : Nat} {s : SV}, (startE N.length ds)[j]? = some (some s) → ∃ d, s = .d d ∧ ds[j]? = some d := by
    intro j s e
    unfold startE at e
    rcases Nat.lt_or_ge j ds.length with z | z
    · rw [List.getElem?_append_left (by simpa using z), List.getElem?_map, List.getElem?_eq_getElem z] at e
      cases e
      exact ⟨_, rfl, List.getElem?_eq_getElem z⟩
    · rw [List.getElem?_append_right (by simpa using z), List.getElem?_replicate] at e
      split at e <;> cases e
  refine ⟨.refl i, by unfold L2.start startE; simp [hl], fun j s e => ?_, fun j s p e o => ?_, fun j k sj sk p ej oj => ?_, fun j xs e => ?_⟩
  · obtain ⟨d, rfl, hd⟩ := none_own e
    obtain ⟨v, hv, q⟩ := dpAll_get h hd
    refine ⟨v, ?_, q⟩
    unfold L2.start
    have hj : j < vs.length := (List.getElem?_eq_some_iff.mp hv).1
    rw [List.getElem?_append_left (by simpa using hj), List.getElem?_map, hv] <;> rfl
  · obtain ⟨d, rfl, _⟩ := none_own e
    cases o
  · obtain ⟨d, rfl, _⟩ := none_own ej
    cases oj
  · obtain ⟨d, z, _⟩ := none_own e
    cases z
theorem body_ok {w : World} {K : PySem.W.Frag} {cm : Nat → Addr × List Str} {E : XK} {N ps : List Str} {t : TS} {f : En → R Fl} {vs : List V} {H : Hp} {Q : VK} (h : ∀ ex : Exi, SemS ⟨⟨K, ex, w⟩, cm, E⟩ t f) (hsp : spF w K cm ps.length (runB ps.length N.length f) vs H Q E) :
    t { nx := fun _ H' => Q .non H', rt := Q } (L2.start N vs) H := by
  obtain ⟨hl, ex, Hf, ds, i, q, o⟩ := hsp
  have I := start_ok (K := ⟨K, ex, w⟩) (N := N) i q
  unfold runB at o
  rw [if_pos (by rw [← dpAll_len q]; exact hl)] at o
  refine h ex ⟨Hf, fun _ => .non⟩ H Hf H _ _ _ I (Out.bind o fun fl efl o1 => ?_)
  cases fl with
  | nx ρ => exact fun Hf2 H2 σ2 I2 => (show GE ⟨⟨K, ex, w⟩, cm, E⟩ true Hf H Q (.d .none) from o1) .non Hf2 H2 I2.ext .non fun _ z => nomatch z
  | rt r => exact fun v Hf2 H2 x q fr => (show GE ⟨⟨K, ex, w⟩, cm, E⟩ true Hf H Q r from o1) v Hf2 H2 x q fun _ => fr
  | bk ρ => exact o1.elim
  | ct ρ => exact o1.elim
section
variable {P : Program} {w : World} {K : PySem.W.Frag} {mg : Str → Option Value} {base : Heap}
theorem mk_ok {x qual : Str} {st : Stmt} {f : Addr} {fd : FuncData} {N ps : List Str} {k : Nat} {cm : Nat → Addr × List Str} {b : En → R Fl} (F : Fun K x qual st f fd) (S : FnScope N ps (defScope st))
    (hb : ∀ (cdv : Value) (A : Around) (outer : List Env) (s : Shared) (H : Hp) (E : XK), Room k (A.deeper (envOfC qual (defScope st) s.heap.objs.size f cdv)) →
      ∃ t, PSs (cxOf CX0 P w K mg base N qual (defScope st) f cdv A outer s H E).nox (defBody st) t ∧ ∀ ex : Exi, SemS ⟨⟨K, ex, w⟩, cm, E⟩ t b) :
    FnOk P w K mg base CX0 (k + 1) f fd ps (spF w K cm ps.length (runB ps.length N.length b)) := by
  refine F.ok S (fun vs H Q E h => h.1) fun cdv A outer s H vs Q E hr h => ?_
  obtain ⟨t, h1, h2⟩ := hb cdv A outer s H E hr
  exact ⟨t, h1, body_ok (ps := ps) h2 h⟩
theorem passE {X : Cx} {E : XK} : Passes CX0 X E := fun _ _ _ _ _ _ _ h => h.elim
end
end Pl
namespace Pl
open PySem PySem.Spec PyProof.Rows L2
section
variable {X : Cx}
abbrev rLen (K : PySem.W.Frag) : List V → Hp → VK → Prop := fun xs H Q => ∃ x n, xs = [x] ∧ LenV K x H n ∧ Q (.int n) H
abbrev rInt : List V → Hp → VK → Prop := fun xs H Q => (∃ i, xs = [.int i] ∧ Q (.int i) H) ∨ ∃ k, xs = [.bl k] ∧ Q (.int (if k then 1 else 0)) H
abbrev rAbs : List V → Hp → VK → Prop := fun xs H Q => ∃ i, xs = [.int i] ∧ Q (.int (if i < 0 then -i else i)) H
abbrev rMax2 : List V → Hp → VK → Prop := fun xs H Q => ∃ i j, xs = [.int i, .int j] ∧ Q (.int (if j > i then j else i)) H
abbrev rMin2 : List V → Hp → VK → Prop := fun xs H Q => ∃ i j, xs = [.int i, .int j] ∧ Q (.int (if j < i then j else i)) H
abbrev rList (K : PySem.W.Frag) : List V → Hp → VK → Prop := fun xs H Q => ∃ p ys, xs = [.ref p] ∧ (SqL K H p ys ∨ SqT K H p ys) ∧ ∀ l, H l = none → Q (.ref l) (upd H l (.lst ys))
abbrev rTupl (K : PySem.W.Frag) : List V → Hp → VK → Prop := fun xs H Q => ∃ p ys, xs = [.ref p] ∧ ((SqL K H p ys ∧ ∀ l, H l = none → Q (.ref l) (upd H l (.tup ys))) ∨ (SqT K H p ys ∧ Q (.ref p) H))
abbrev rIsN : R2 := fun x y H Q => y = .non ∧ Q (.bl (decide (x = .non))) H
abbrev rNotN : R2 := fun x y H Q => y = .non ∧ Q (.bl (!decide (x = .non))) H
theorem cb_len : CallR X (.builtin "len") (rLen X.K) := call_len
theorem cb_int : CallR X (.type "int") rInt := call_int1
theorem cb_abs : CallR X (.builtin "abs") rAbs := call_abs
theorem cb_max2 (hc : X.calm = true) : CallR X (.builtin "max") rMax2 := call_max2 hc
theorem cb_min2 (hc : X.calm = true) : CallR X (.builtin "min") rMin2 := call_min2 hc
theorem cb_list : CallR X (.type "list") (rList X.K) := call_list_of
theorem cb_tup : CallR X (.type "tuple") (rTupl X.K) := call_tuple_of
end
theorem u65 {k : Nat} {A : Around} (r : Room k A) : A.units + 65 < cLine := by have := r.un; omega
/-- a def of the text, as it is called -/
structure Fn (K : PySem.W.Frag) (mg : Str → Option Value) (x : Str) (st : Stmt) (ps : List Str) (f : Addr) (fd : FuncData) : Prop where
  F : Fun K x x st f fd
  b : Binds K fd ps []
  m : mg x = some (.ref f)
def fuel : En → Nat := fun _ => 1000000
theorem law_sp {w : World} {K : PySem.W.Frag} {cm : Nat → Addr × List Str} {g : List D → R SV} {H : Hp} {a : Addr} {ns : List Int} {E : XK} (hS : SqL K H a (ns.map V.int)) (h : g [.list (ns.map PyData.int)] = .ok (.d (.bool true))) :
    spF w K cm 1 g [.ref a] H (fun v _ => v = .bl true) E := by
  refine ⟨rfl, ⟨0, 0, none⟩, H, [.list (ns.map PyData.int)], .refl _, .cons (.lst hS (dpAll_ints ns)) .nil, ?_⟩
  rw [h]
  intro v Hf' H' x q _
  cases q
  rfl
end Pl
namespace Pl
open PySem PySem.Spec PyProof.Rows L2

/-! ### sorted(list of data) -/
def allAlike (ds : List D) : Bool := ds.all fun d => ds.all fun e => PySem.W.alike d e
def isTup1 : D → Bool
  | .tuple _ => true
  | _ => false
def noTup : D → Bool
  | .none => false
  | .tuple _ => false
  | _ => true
def sortable (ds : List D) : Bool := ds.all isTup1 || ds.all noTup
def sortD (ds : List D) : List D := ds.mergeSort (PySem.W.dataLe false id)
def sortedS : List SV → R SV
  | [a] => (match datL a with
    | .ok ds => if allAlike ds = true ∧ sortable ds = true ∧ (ds.all fun d => decide (d.depth ≤ 60)) = true ∧ ds.length ≤ sizeLine then .ok (.ol (sortD ds)) else .bad
    | _ => .bad)
  | _ => .bad
theorem allAlike_of {ds : List D} (h : allAlike ds = true) : PySem.W.AllAlike ds := fun d hd d' hd' => by
  unfold allAlike at h
  exact List.all_eq_true.mp (List.all_eq_true.mp h d hd) d' hd'
/-- all are tuples (empty ones too), or none is a tuple or None -/
def Srt (ds : List D) : Prop := (∀ d ∈ ds, ∃ xs, d = .tuple xs) ∨ ∀ d ∈ ds, d ≠ .none ∧ ∀ xs, d ≠ .tuple xs
theorem sortable_of {ds : List D} (h : sortable ds = true) : Srt ds := by
  unfold sortable at h
  rcases Bool.or_eq_true_iff.mp h with h | h
  · refine .inl fun d hd => ?_
    have q := List.all_eq_true.mp h d hd
    unfold isTup1 at q
    split at q
    · exact ⟨_, rfl⟩
    · cases q
  · refine .inr fun d hd => ?_
    have q := List.all_eq_true.mp h d hd
    refine ⟨fun e => ?_, fun xs e => ?_⟩ <;> (subst e; cases q)
section
open PySem.W PySem.SeqAt
variable {prog : Program} {w : World} {A : Around} {E : Value → Shared → Prop} {s : Shared}
theorem callTupLt {Q : Value → Shared → Prop} {l b : Addr} {items items2 : Array Value} {e r : Nat → Bool} (hl : s.heap.IsTuple l items) (hb : s.heap.IsTuple b items2)
    (he : ∀ j (h1 : j < items.size) (h2 : j < items2.size), EqAt A.in1 s items[j] items2[j] (e j)) (hr : ∀ j (h1 : j < items.size) (h2 : j < items2.size), e j = false → RcLt A.in1 s items[j] items2[j] (r j))
    (h : Q (.bool (firstLt e r (decide (items.size < items2.size)) (List.range (min items.size items2.size)))) s) : wpAny (model prog w) A (call (.builtin "tuple.__lt__") [.ref l, .ref b]) Q E s := by
  obtain ⟨⟨cls, dd, data, sl⟩, ho, hc, n, hd⟩ := id hl
  obtain ⟨⟨cls2, dd2, data2, sl2⟩, ho2, hc2, n2, hd2⟩ := id hb
  simp only at hc hd hc2 hd2
  subst hc hd hc2 hd2
  exact call_meets PySem.F.slot_tuple_lt ⟨_, ho, rfl⟩ PySem.F.entry_tuple_lt (PySem.F.args_tuple_lt_2 _ _) (tuple_ltAt l b items items2 n n2 dd dd2 sl sl2 e r) ⟨ho, ho2, he, hr, h⟩
theorem oneLtTup {xs ys : List PyData} {a b : Value} {as bs : List Addr} {Q : Bool → Shared → Prop} (ra : Reads s.heap a (.tuple xs) as) (rb : Reads s.heap b (.tuple ys) bs) (h : alike (.tuple xs) (.tuple ys) = true)
    (hu : A.units + min (PyData.tuple xs).depth (PyData.tuple ys).depth < cLine) (hq : Q (dataLt (.tuple xs) (.tuple ys)) s) : wpAny (model prog w) A (oneLt' true a b) Q E s := by
  have hal : alikeAll xs ys = true := by simpa [alike] using h
  cases ra with
  | @tuple l o vs n _ as₁ h1 h2 h3 h4 =>
    cases rb with
    | @tuple l' o' vs' n' _ bs₁ k1 k2 k3 k4 =>
      have n1 : vs.size = xs.length := by simpa using ReadsAll.length _ _ _ h4
      have n2 : vs'.size = ys.length := by simpa using ReadsAll.length _ _ _ k4
      rw [dataLt_tuple, ← firstLt_toks xs ys hal, ← n1, ← n2] at hq
      rw [oneLt'_eq]
      simp only [if_true]
      refine wpAny_bind (wpAny_cRoomFor (room_here hu) ?_)
      refine wpAny_bind (wpAny_callSpecialIfBound?_slot (T := "tuple") ⟨_, h1, h2⟩ PySem.F.slot_tuple_lt (callTupLt (e := pairEq xs ys) (r := fun j => dataLt (xs.getD j .none) (ys.getD j .none)) ⟨_, h1, h2, _, h3⟩ ⟨_, k1, k2, _, k3⟩ (fun j j1 j2 => ?_) (fun j j1 j2 hj => ?_) ?_))
      · have := eqAt_alikeAll xs ys A.in1 s vs.toList vs'.toList _ _ h4 k4 hal (room_in hu) j (by simpa using j1) (by simpa using j2)
        simpa using this
      · have := rcLt_alikeAll xs ys A.in1 s vs.toList vs'.toList _ _ h4 k4 hal (room_in hu) j (by simpa using j1) (by simpa using j2) hj
        simpa using this
      · exact wpAny_truthy_bool hq
theorem firstsTup : ∀ {vs : List Value} {ds : List PyData}, EachIs (fun v d => ∃ as, Reads s.heap v d as) vs ds → (∀ d ∈ ds, ∃ xs, d = .tuple xs) →
    ∃ fs : List (Option Value), fs.length = vs.length ∧ ((∀ f ∈ fs, f.isSome = true) → ∀ d ∈ ds, ∃ x r, d = .tuple (x :: r)) ∧ ∀ (E : Value → Shared → Prop) (Q : List (Option Value) → Shared → Prop), Q fs s → wpAny (model prog w) A (vs.mapM firstOfTuple') Q E s
  | _, _, .nil, _ => ⟨[], rfl, fun _ d hd => (nomatch hd), fun E Q hq => by rw [List.mapM_nil]; exact wpAny_pure hq⟩
  | _, _, .cons (b := d) ⟨as, r⟩ t, ht => by
    obtain ⟨fs, h1, h2, h3⟩ := firstsTup t fun d hd => ht d (List.mem_cons_of_mem _ hd)
    obtain ⟨xs, rfl⟩ := ht d (List.mem_cons_self ..)
    cases r with
    | @tuple a o ws n _ _ ho hc hd hr =>
      refine ⟨ws[0]? :: fs, by rw [List.length_cons, List.length_cons, h1], fun hs d hd' => ?_, fun E Q hq => ?_⟩
      · rcases List.mem_cons.mp hd' with rfl | hd'
        · have q := hs _ (List.mem_cons_self ..)
          cases hx : xs with
          | nil =>
            subst hx
            generalize hw : ws.toList = w' at hr
            cases hr
            rw [← Array.getElem?_toList, hw] at q
            cases q
          | cons x r => exact ⟨x, r, rfl⟩
        · exact h2 (fun f hf => hs f (List.mem_cons_of_mem _ hf)) d hd'
      · rw [List.mapM_cons]
        refine wpAny_bind ?_
        rw [kas_first_eq]
        refine wpAny_bind (Looks.here (show Looks (model prog w) s.heap (typeOf (.ref a)) o.cls from (Looks.ld ho).andThen .now) ?_)
        rw [hc, if_neg (by first | decide | simp)]
        refine wpAny_bind (listItems_at ho hd (wpAny_pure ?_))
        exact wpAny_bind (h3 E (fun bs s' => wpAny (model prog w) A (pure (ws[0]? :: bs)) Q E s') (wpAny_pure hq))
theorem sortsTup {vs : List Value} {ds : List PyData} (e : EachIs (fun v d => ∃ as, Reads s.heap v d as) vs ds) (hal : AllAlike ds) (ht : ∀ d ∈ ds, ∃ xs, d = .tuple xs) (hu : ∀ d, d ∈ ds → A.units + d.depth < cLine) :
    SortsAt prog w A s (dataKind s.heap ds) vs := by
  by_cases hne : ∀ d ∈ ds, ∃ x r, d = .tuple (x :: r)
  · exact SortsAt.data e hal (.inl hne) hu
  have room : ∀ {d d' : PyData}, d ∈ ds → A.units + min d.depth d'.depth < cLine := fun {d d'} hd => Nat.lt_of_le_of_lt (Nat.add_le_add_left (Nat.min_le_left _ _) _) (hu d hd)
  refine ⟨fun v hv => ?_, ?_⟩
  · obtain ⟨d, hd, as, r⟩ := e.left v hv
    exact ⟨_, dataKind_some hal hd r⟩
  obtain ⟨fs, f1, f2, f3⟩ := firstsTup (prog := prog) (w := w) (A := A) e ht
  have hall : ¬ (fs.toArray.all fun x => x.isSome) = true := fun z => hne (f2 fun f hf => by
    have z2 : fs.all (fun x => x.isSome) = true := by simpa using z
    exact List.all_eq_true.mp z2 f hf)
  refine ⟨if ((fs.toArray[0]?).bind id).isSome = true then general' else oneType', ?_, fun h2 E Q hq => ?_⟩
  · intro E x y a b Q ha hb hq
    obtain ⟨d, as, hd, ra, rfl⟩ := dataKind_inv ha
    obtain ⟨d', as', hd', rb, rfl⟩ := dataKind_inv hb
    have hdd := hal d hd d' hd'
    have hroom := room (d' := d') hd
    split
    · show wpAny (model prog w) A (oneLt' false x y) Q E s
      exact oneLt_alike (fun h => nomatch h) ra rb hdd (by obtain ⟨xs, rfl⟩ := ht d hd; exact fun h => nomatch h) hroom hq
    · rw [keyLt'_oneType]
      obtain ⟨xs, rfl⟩ := ht d hd
      obtain ⟨ys, rfl⟩ := ht d' hd'
      exact oneLtTup ra rb hdd hroom hq
  · rw [kat_kind_eq, List.mapM_toArray, map_eq_pure_bind]
    refine wpAny_bind (wpAny_bind (f3 E _ (wpAny_pure ?_)))
    rw [if_neg hall]
    by_cases hf0 : ((fs.toArray[0]?).bind id).isSome = true
    · rw [if_pos hf0] at hq ⊢
      exact wpAny_pure hq
    · rw [if_neg hf0] at hq ⊢
      rw [oneTypeOnly'_eq, List.mapM_toArray, map_eq_pure_bind]
      refine wpAny_bind (wpAny_bind (wpAny_bind (kas_mapM (r := Value.type "tuple") _ (fun v hv Q' hq => ?_) (wpAny_pure ?_))))
      · obtain ⟨d, hd, as, r⟩ := e.left v hv
        obtain ⟨xs, rfl⟩ := ht d hd
        exact (looks_reads r).here hq
      · obtain ⟨v₁, rest, rfl⟩ : ∃ v₁ rest, vs = v₁ :: rest := by
          match vs, h2 with
          | [], h2 => simp at h2
          | v₁ :: rest, _ => exact ⟨v₁, rest, rfl⟩
        have hal2 : ((List.map (fun _ => Value.type "tuple") (v₁ :: rest)).toArray.all fun x => x == Value.type "tuple") = true := by
          simp only [List.all_toArray, List.all_map, List.all_eq_true]
          intro _ _
          exact beq_self_eq_true _
        have h0 : (List.map (fun _ => Value.type "tuple") (v₁ :: rest)).toArray[0]? = some (Value.type "tuple") := by simp
        rw [h0]
        simp only [hal2, if_true]
        exact wpAny_pure (wpAny_pure hq)
theorem sortsD {vs : List Value} {ds : List PyData} (e : EachIs (fun v d => ∃ as, Reads s.heap v d as) vs ds) (hal : AllAlike ds) (hk : Srt ds) (hu : ∀ d, d ∈ ds → A.units + d.depth < cLine) :
    SortsAt prog w A s (dataKind s.heap ds) vs := by
  rcases hk with ht | ho
  · exact sortsTup e hal ht hu
  · exact SortsAt.data e hal (.inr ho) hu
theorem sortedD {β : Type} {vs : List Value} {bs : List β} {enc : β → PyData} {R : Value → β → Prop} {l : Addr} {Q : Value → Shared → Prop} (hl : s.heap.IsList l vs.toArray) (e : EachIs R vs bs) (er : EachIs (fun v b => ∃ as, Reads s.heap v (enc b) as) vs bs) (hal : AllAlike (bs.map enc)) (hk : Srt (bs.map enc)) (hL : bs.length ≤ sizeLine)
    (hu : ∀ b, b ∈ bs → A.units + 2 + (enc b).depth < cLine) (h : ∀ out, out.length = bs.length → EachIs R out (bs.mergeSort (dataLe false enc)) → Q (.ref (s.heap.objs.size + 1)) { s with heap := sortedAll s.heap vs (List.toArray out) }) :
    wpAny (model prog w) A (call (.builtin "sorted") [.ref l]) Q E s := by
  have er' : EachIs (fun v b => ∃ as, Reads (sortingHeap (copyHeap s.heap vs) (s.heap.objs.size + 1) vs) v (enc b) as) vs bs := er.mono fun _ _ ⟨as, r⟩ => ⟨as, PyProof.Rows.Reads.keeps (fun _ _ => sorting_copy_old) r⟩
  exact sorted_vals hl (sortsD (s := { s with heap := sortingHeap (copyHeap s.heap vs) (s.heap.objs.size + 1) vs }) (each_map (R := fun v d => ∃ as, Reads (sortingHeap (copyHeap s.heap vs) (s.heap.objs.size + 1) vs) v d as) enc er') hal hk (bound_map hu)) (by rw [e.length]; exact hL)
    (h _ (by rw [sortVals_length false rfl]; exact e.length) (sortVals_data false e er' hal))
end
/-- the values as they are sorted with their data -/
def sortV (vs : List V) (ds : List D) : List V := ((vs.zip ds).mergeSort (PySem.W.dataLe false Prod.snd)).map Prod.fst
theorem zip_snd {K : PySem.W.Frag} {H : Hp} : ∀ {vs : List V} {ds : List D}, DpAll K H vs ds → (vs.zip ds).map Prod.snd = ds
  | _, _, .nil => rfl
  | _, _, .cons _ t => by simp [zip_snd t]
theorem zip_dp {K : PySem.W.Frag} {H : Hp} : ∀ {vs : List V} {ds : List D}, DpAll K H vs ds → ∀ p ∈ vs.zip ds, Dp K H p.1 p.2
  | _, _, .nil, p, h => by simp at h
  | _, _, .cons a t, p, h => by
    rw [List.zip_cons_cons] at h
    rcases List.mem_cons.mp h with rfl | h
    · exact a
    · exact zip_dp t p h
theorem dpAll_of {K : PySem.W.Frag} {H : Hp} : ∀ (l : List (V × D)), (∀ p ∈ l, Dp K H p.1 p.2) → DpAll K H (l.map Prod.fst) (l.map Prod.snd)
  | [], _ => .nil
  | p :: l, h => .cons (h p List.mem_cons_self) (dpAll_of l fun q hq => h q (List.mem_cons_of_mem _ hq))
theorem sort_dp {K : PySem.W.Frag} {H : Hp} {vs : List V} {ds : List D} (h : DpAll K H vs ds) : DpAll K H (sortV vs ds) (sortD ds) := by
  have e : sortD ds = ((vs.zip ds).mergeSort (PySem.W.dataLe false Prod.snd)).map Prod.snd := by
    have q := List.map_mergeSort (r := PySem.W.dataLe false (Prod.snd : V × D → D)) (s := PySem.W.dataLe false id) (f := Prod.snd) (l := vs.zip ds) (fun a _ b _ => rfl)
    rw [zip_snd h] at q
    exact q.symm
  rw [e]
  unfold sortV
  exact dpAll_of _ fun p hp => zip_dp h p (List.mem_mergeSort.mp hp)
def rSortD (K : PySem.W.Frag) : List V → Hp → VK → Prop := fun xs H Q => ∃ a vs ds, xs = [.ref a] ∧ SqL K H a vs ∧ DpAll K H vs ds ∧ PySem.W.AllAlike ds ∧ Srt ds ∧ (∀ d ∈ ds, d.depth ≤ 60) ∧ ds.length ≤ sizeLine ∧
  ∀ p, H p = none → Q (.ref p) (upd H p (.lst (sortV vs ds)))
theorem each_zip {X : Cx} {pins : List (Addr × Obj)} {σ : L2.St} {H : Hp} {s : Shared} (I : Inv X pins σ H s) : ∀ {vs : List V} {ds : List D} {its : List Value}, DpAll X.K H vs ds → Vals vs its →
    PySem.W.EachIs (fun (u : Value) (b : V × D) => RelV b.1 u) its (vs.zip ds) ∧ PySem.W.EachIs (fun (u : Value) (b : V × D) => ∃ as, Reads s.heap u b.2 as) its (vs.zip ds)
  | _, _, _, .nil, .nil => ⟨.nil, .nil⟩
  | _, _, _, .cons a t, .cons r q => by
    obtain ⟨h1, h2⟩ := each_zip I t q
    exact ⟨.cons r h1, .cons (Dp.reads I _ _ _ a r) h2⟩
theorem each_vals : ∀ {out : List Value} {l : List (V × D)}, PySem.W.EachIs (fun (u : Value) (b : V × D) => RelV b.1 u) out l → Vals (l.map Prod.fst) out
  | _, _, .nil => .nil
  | _, _, .cons a t => .cons a (each_vals t)
theorem cb_sorted {X : Cx} (hu : X.A.units + 65 < cLine) : CallR X (.builtin "sorted") (rSortD X.K) := by
  intro pins s σ H xs us Q I r h
  obtain ⟨a, vs, ds, rfl, hs, hd, hal, hk, hdp, hL, q⟩ := h
  obtain ⟨its, rv, hl, hz⟩ := I.list hs
  rw [Vals.ref1 r]
  obtain ⟨e1, e2⟩ := each_zip I hd rv
  have hds := zip_snd hd
  have hlen : (vs.zip ds).length = ds.length := by rw [← hds, List.length_map]; rw [hds]
  refine sortedD (bs := vs.zip ds) (enc := Prod.snd) hl.isList e1 e2 (by rw [hds]; exact hal) (by rw [hds]; exact hk) (by rw [hlen]; exact hL) (fun b hb => ?_) fun out ho eo => ?_
  · have : b.2 ∈ ds := by rw [← hds]; exact List.mem_map_of_mem hb
    have := hdp _ this
    omega
  · obtain ⟨ep, he'⟩ := PyProof.Rows.sortedAll_at s.heap its out.toArray
    have hv := each_vals eo
    have hl2 : (sortV vs ds).length ≤ sizeLine := by
      have := hv.length
      unfold sortV
      rw [this, ho, hlen]; exact hL
    exact ⟨.ref _, upd H (s.heap.objs.size + 1) (.lst (sortV vs ds)), I.laid (t' := s.toks) (fun _ _ => PyProof.Rows.sortedAll_old) (Nat.le_succ _) ⟨hl2, out, ep, hv, he'⟩, rfl, q _ (I.hok.fresh (Nat.le_succ _))⟩
theorem c1_sorted {c : Ct} : C1ok c (rSortD c.K) sortedS := by
  intro Hf H vs rs Q i h o
  unfold sortedS at o
  split at o
  · split at o
    · rename_i xs e
      split at o
      · rename_i hc
        cases h with
        | cons a b =>
          cases b
          obtain ⟨p, ws, rfl, h1, h2⟩ := datL_ok i a e
          exact ⟨_, _, _, rfl, h1, dpAll_mono i h2, allAlike_of hc.1, sortable_of hc.2.1, fun d hd => of_decide_eq_true (List.all_eq_true.mp hc.2.2.1 d hd), hc.2.2.2, fun p hp => GE.newL o i hp (sort_dp h2)⟩
      · exact o.elim
    · exact o.elim
  · exact o.elim

/-! ### list(range(..)) -/
def lrng1 (f : En → R SV) : En → R SV := fun ρ => f ρ >>= fun a => match a with
  | .d (.int j) => if okR j = true ∧ j ≤ 16777216 then .ok (.ol (rng 0 j)) else .bad
  | _ => .bad
def lrng2 (f g : En → R SV) : En → R SV := fun ρ => f ρ >>= fun a => g ρ >>= fun b => match a, b with
  | .d (.int i), .d (.int j) => if okR i = true ∧ okR j = true ∧ j - i ≤ 16777216 then .ok (.ol (rng i j)) else .bad
  | _, _ => .bad
theorem rgV_dp {K : PySem.W.Frag} {H : Hp} (a b : Int) : DpAll K H (rgV a b) (rng a b) := by
  unfold rgV rng
  induction List.range (b - a).toNat with
  | nil => exact .nil
  | cons k r ih => exact .cons (.int _) ih
theorem sem_lrng1 {c : Ct} {t : TE} {f : En → R SV} (h : SemE c false t f) : SemE c true (tLstRg (tRg1 t)) (lrng1 f) := by
  intro B H0 Hf H σ ρ Q I o
  refine h B H0 Hf H σ ρ _ I (Out.bind o fun a ea o1 => fun v Hf1 H1 x1 q1 _ => ?_)
  split at o1
  · split at o1
    · rename_i hj
      cases q1
      exact ⟨_, rfl, ⟨by omega, by omega, (okR_ok hj.1).1, (okR_ok hj.1).2, by have := hj.2; omega⟩, fun p hp => GE.newL (GE.grow (show GE c true Hf H Q _ from o1) x1) x1.i hp (rgV_dp _ _)⟩
    · exact o1.elim
  · exact o1.elim
theorem sem_lrng2 {c : Ct} {t u : TE} {f g : En → R SV} (h : SemE c false t f) (h' : SemE c false u g) : SemE c true (tLstRg (tRg2 t u)) (lrng2 f g) := by
  intro B H0 Hf H σ ρ Q I o
  refine h B H0 Hf H σ ρ _ I (Out.bind o fun a ea o1 => fun v Hf1 H1 x1 q1 _ => ?_)
  refine h' B H0 Hf1 H1 σ ρ _ (I.grow x1) (Out.bind (o1.grow x1 fun _ z => z) fun b eb o2 => fun u Hf2 H2 x2 q2 _ => ?_)
  split at o2
  · split at o2
    · rename_i hj
      cases q1; cases q2
      exact ⟨_, _, rfl, rfl, ⟨(okR_ok hj.1).1, (okR_ok hj.1).2, (okR_ok hj.2.1).1, (okR_ok hj.2.1).2, by have := hj.2.2; omega⟩, fun p hp => GE.newL (GE.grow (show GE c true Hf H Q _ from o2) (x1.trans x2)) x2.i hp (rgV_dp _ _)⟩
    · exact o2.elim
  · exact o2.elim

/-! ### is True, is False, of any datum -/
section
variable {X : Cx}
def rIsB2 (K : PySem.W.Frag) : R2 := fun x y H Q => ∃ d b, Dp K H x d ∧ y = .bl b ∧ Q (.bl (decide (x = .bl b))) H
def rNotB2 (K : PySem.W.Frag) : R2 := fun x y H Q => ∃ d b, Dp K H x d ∧ y = .bl b ∧ Q (.bl (!decide (x = .bl b))) H
theorem dp_bool {K : PySem.W.Frag} {H : Hp} {x : V} {d : D} {v : Value} {b : Bool} (h : Dp K H x d) (r : RelV x v) : PySem.plainIs v (.bool b) = true ∧ (decide (x = .bl b) = (v == .bool b)) := by
  cases h with
  | non => cases r; exact ⟨rfl, rfl⟩
  | bl c =>
    cases (show v = Value.bool c from r)
    refine ⟨rfl, ?_⟩
    cases b <;> cases c <;> rfl
  | int i => obtain ⟨t, rfl⟩ := r; exact ⟨rfl, rfl⟩
  | str z => obtain ⟨t, rfl⟩ := r; exact ⟨rfl, rfl⟩
  | lst _ _ => cases r; exact ⟨rfl, rfl⟩
  | tup _ _ => cases r; exact ⟨rfl, rfl⟩
theorem op_isB2 : OpR X (compareOp .Is) (rIsB2 X.K) := by
  intro pins s σ H x y v u Q I rx ry h
  obtain ⟨d, b, hd, rfl, q⟩ := h
  cases (show u = Value.bool b from ry)
  obtain ⟨h1, h2⟩ := dp_bool (b := b) hd rx
  exact PySem.wpAny_is_plain h1 ⟨.bl _, H, I, by rw [← h2]; rfl, q⟩
theorem op_notB2 : OpR X (compareOp .IsNot) (rNotB2 X.K) := by
  intro pins s σ H x y v u Q I rx ry h
  obtain ⟨d, b, hd, rfl, q⟩ := h
  cases (show u = Value.bool b from ry)
  obtain ⟨h1, h2⟩ := dp_bool (b := b) hd rx
  exact PySem.wpAny_isNot_plain h1 ⟨.bl _, H, I, by rw [← h2]; rfl, q⟩
end
def isbD (d : D) (b : Bool) : Bool := match d with
  | .bool a => decide (a = b)
  | _ => false
def isbS (neg : Bool) (x y : SV) : R SV := match y with
  | .d (.bool b) => datS x >>= fun d => .ok (.d (.bool (if neg then !isbD d b else isbD d b)))
  | _ => .bad
theorem isbD_of {K : PySem.W.Frag} {H : Hp} {x : V} {d : D} (b : Bool) (h : Dp K H x d) : decide (x = .bl b) = isbD d b := by
  cases h with
  | bl c => cases b <;> cases c <;> rfl
  | _ => rfl
theorem r2_isB {c : Ct} : R2ok c (rIsB2 c.K) (isbS false) := by
  intro Hf H x y rx ry Q i hx hy o
  unfold isbS at o
  split at o
  · obtain ⟨d, e1, o2⟩ := out_dat o
    cases hy
    have q := looked (c := c) i hx e1
    exact ⟨d, _, q, rfl, by rw [isbD_of _ q]; exact GE.now o2 i (.bl _)⟩
  · exact o.elim
theorem r2_notB {c : Ct} : R2ok c (rNotB2 c.K) (isbS true) := by
  intro Hf H x y rx ry Q i hx hy o
  unfold isbS at o
  split at o
  · obtain ⟨d, e1, o2⟩ := out_dat o
    cases hy
    have q := looked (c := c) i hx e1
    exact ⟨d, _, q, rfl, by rw [isbD_of _ q]; exact GE.now o2 i (.bl _)⟩
  · exact o.elim

/-! ### a list of this frame is changed -/
/-- the slot's object is written anew -/
theorem EnvOk.rewrite {K : Kx} {B : Bs} {H0 Hf H : Hp} {σ : L2.St} {ρ : En} {i : Nat} {xs xs' : List D} {vs vs' : List V} {p : Addr} (I : EnvOk K B H0 Hf H σ ρ) (e : ρ[i]? = some (some (.ol xs))) (h1 : σ[i]? = some (some (.ref p))) (h2 : H p = some (.lst vs)) (h3 : Hf p = none) (h4 : DpAll K Hf vs' xs') :
    EnvOk K B H0 Hf (upd H p (.lst vs')) σ (ρ.set i (some (.ol xs'))) := by
  have hn := I.new i _ p e rfl h1
  refine ⟨⟨I.ext.f, fun b o eb => ?_, fun b o eb => ?_, I.ext.n⟩, by rw [List.length_set]; exact I.len, fun j s ej => ?_, fun j s q ej oj es => ?_, fun j k sj sk q ej oj ek ok e1 e2 => ?_, fun j ys ej => ?_⟩
  · rw [upd_ne (ne_of_none eb hn)]; exact I.ext.h _ _ eb
  · rw [upd_ne (ne_of_none eb h3)]; exact I.i _ _ eb
  · rcases set_get ej with ⟨rfl, ej, _⟩ | ⟨hj, ej⟩
    · cases ej
      exact ⟨_, h1, p, _, rfl, upd_same, h3, h4⟩
    · obtain ⟨w, w1, w2⟩ := I.sl j s ej
      refine ⟨w, w1, ?_⟩
      cases s with
      | d x => exact w2
      | ol ys =>
        obtain ⟨q, us, rfl, u1, u2⟩ := w2
        have hq : q ≠ p := fun z => hj (I.sep j i _ _ p ej rfl e rfl (z ▸ w1) h1)
        exact ⟨q, us, rfl, by rw [upd_ne hq]; exact u1, u2⟩
      | od ys =>
        obtain ⟨q, us, rfl, u1, u2⟩ := w2
        have hq : q ≠ p := fun z => hj (I.sep j i _ _ p ej rfl e rfl (z ▸ w1) h1)
        exact ⟨q, us, rfl, by rw [upd_ne hq]; exact u1, u2⟩
      | pin ys =>
        obtain ⟨q, us, rfl, u1, u2⟩ := w2
        have hq : q ≠ p := I.pin_ne ej w1 hn
        exact ⟨q, us, rfl, by rw [upd_ne hq]; exact u1, u2⟩
      | exn n as => exact ⟨w2.1, w2.2.1, w2.2.2.upd h2⟩
      | pd ys => exact w2
      | kd ys =>
        obtain ⟨q, ep, us, rfl, u1, u2⟩ := w2
        have hq : q ≠ p := fun z => hj (I.sep j i _ _ p ej rfl e rfl (z ▸ w1) h1)
        exact ⟨q, ep, us, rfl, by rw [upd_ne hq]; exact u1, u2⟩
      | sk ys => exact w2
      | sd ys => exact w2
      | so C fs => exact w2
      | oi C fs =>
        obtain ⟨q, dx, us, rfl, u1, u2⟩ := w2
        have hq : q ≠ p := fun z => hj (I.sep j i _ _ p ej rfl e rfl (z ▸ w1) h1)
        exact ⟨q, dx, us, rfl, by rw [upd_ne hq]; exact u1, u2⟩
  · rcases set_get ej with ⟨rfl, ej, _⟩ | ⟨_, ej⟩
    · rw [h1] at es; cases es; exact hn
    · exact I.new j s q ej oj es
  · have old : ∀ {j : Nat} {s : SV}, (ρ.set i (some (.ol xs')))[j]? = some (some s) → s.own = true → ∃ s', ρ[j]? = some (some s') ∧ s'.own = true := by
      intro j s ej oj
      rcases set_get ej with ⟨rfl, _, _⟩ | ⟨_, ej⟩
      · exact ⟨_, e, rfl⟩
      · exact ⟨s, ej, oj⟩
    obtain ⟨sj', a1, a2⟩ := old ej oj
    obtain ⟨sk', b1, b2⟩ := old ek ok
    exact I.sep j k sj' sk' q a1 a2 b1 b2 e1 e2
  · rcases set_get ej with ⟨_, ej, _⟩ | ⟨_, ej⟩
    · cases ej
    · exact I.pin j ys ej
/-- x[k] = e -/
def setS (i : Nat) (fk f : En → R SV) : En → R Fl := fun ρ => f ρ >>= fun r => datS r >>= fun d => match ρ[i]? with
  | some (some (.ol xs)) => fk ρ >>= fun k => (match k with
    | .d (.int n) => (match ixN xs.length n with
      | some j => .ok (.nx (ρ.set i (some (.ol (xs.set j d)))))
      | none => .bad)
    | _ => .bad)
  | _ => .bad
theorem sem_setL {c : Ct} {i : Nat} {t tk : TE} {f fk : En → R SV} (h : SemE c true t f) (hk : SemE c false tk fk) : SemS c (tAsg t (gSub (tVar i) tk rSetL)) (setS i fk f) := by
  intro B H0 Hf H σ ρ Dn I o
  refine h B H0 Hf H σ ρ _ I ((Out.bind o fun a ea o1 => ?_ : Out c B H0 (f ρ) (GE c true Hf H _)).here I.ext)
  intro u Hf1 H1 x1 q1 fr
  obtain ⟨d, ed, o2⟩ := out_dat o1
  obtain ⟨Hf2, x2, q2⟩ := froze x1 q1 (fr rfl) ed
  split at o2
  rotate_left
  · exact o2.elim
  rename_i xs e
  have I2 := I.grow x2
  obtain ⟨v, h1, p, vs, rfl, h2, h3, h4⟩ := I2.sl i _ e
  refine ⟨.ref p, h1, ?_⟩
  refine hk B H0 Hf2 H1 σ ρ _ I2 ((Out.bind o2 fun kk ek o3 => ?_ : Out c B H0 (fk ρ) (GE c false Hf2 H1 _)).here I2.ext)
  intro w Hf3 H3 x3 q3 _
  split at o3
  rotate_left
  · exact o3.elim
  rename_i n
  split at o3
  rotate_left
  · exact o3.elim
  rename_i j ej
  cases q3
  have I3 := I2.grow x3
  have h2' := x3.h _ _ h2
  have h3' := x3.still h2 h3
  exact ⟨p, vs, _, j, rfl, rfl, h2', by rw [dpAll_len h4]; exact ej, (show GS c B H0 Dn (.nx _) from o3) _ _ _ (I3.rewrite e h1 h2' h3' (dpAll_set (dp_mono x3.f q2) j (dpAll_mono x3.f h4)))⟩
/-- x.extend(e), e a new list -/
def extS (i : Nat) (f : En → R SV) : En → R Fl := fun ρ => match ρ[i]? with
  | some (some (.ol xs)) => f ρ >>= fun r => (match r with
    | .ol ys => if xs.length + ys.length ≤ sizeLine then .ok (.nx (ρ.set i (some (.ol (xs ++ ys))))) else .bad
    | _ => .bad)
  | _ => .bad
theorem sem_ext {c : Ct} {i : Nat} {t : TE} {f : En → R SV} (h : SemE c true t f) : SemS c (tDrop (tBM c.K "list" rExtend (tVar i) (tCons t tNil))) (extS i f) := by
  intro B H0 Hf H σ ρ Dn I o
  unfold extS at o
  split at o
  rotate_left
  · exact o.elim
  rename_i xs e
  obtain ⟨v, h1, p, vs, rfl, h2, h3, h4⟩ := I.sl i _ e
  refine ⟨.ref p, h1, .inl ⟨rfl, vs, .inl (.inl h2)⟩, ?_⟩
  refine h B H0 Hf H σ ρ _ I ((Out.bind o fun a ea o1 => ?_ : Out c B H0 (f ρ) (GE c true Hf H _)).here I.ext)
  intro u Hf1 H1 x1 q1 fr
  split at o1
  rotate_left
  · exact o1.elim
  rename_i ys
  obtain ⟨p2, vs2, rfl, g1, g2, g3⟩ := q1
  split at o1
  rotate_left
  · exact o1.elim
  rename_i hlen
  have h2' := x1.h _ _ h2
  have h3' := x1.still h2 h3
  refine ⟨p, p2, vs, vs2, rfl, rfl, h2', g1, by rw [dpAll_len h4, dpAll_len g3]; exact hlen, ?_⟩
  exact (show GS c B H0 Dn (.nx _) from o1) _ _ _ ((I.grow x1).rewrite e h1 h2' h3' (dpAll_append (dpAll_mono x1.f h4) g3))

/-! ### a def that never answers (the ground of a recursion) -/
theorem mk_bad {P : Program} {w : World} {K : PySem.W.Frag} {mg : Str → Option Value} {base : Heap} {x qual : Str} {st : Stmt} {f : Addr} {fd : FuncData} {N ps : List Str} {k : Nat} {cm : Nat → Addr × List Str} {n : Nat} (F : Fun K x qual st f fd) (S : FnScope N ps (defScope st)) (hn : n = ps.length) :
    FnOk P w K mg base CX0 (k + 1) f fd ps (spF w K cm n fun _ => .bad) := by
  refine F.ok S (fun vs H Q E h => h.1.trans hn) fun cdv A outer s H vs Q E hr h => ?_
  obtain ⟨_, _, _, _, _, _, o⟩ := h
  exact o.elim
end Pl
namespace Pl
open PySem PySem.Spec PyProof.Rows L2
section
variable {c : Ct}
/-! ### x[::-1] of a list -/
def revS (a : SV) : R SV := match datL a with
  | .ok xs => .ok (.ol xs.reverse)
  | _ => .bad
theorem dpAll_rev {K : PySem.W.Frag} {H : Hp} : ∀ {vs : List V} {ds : List D}, DpAll K H vs ds → DpAll K H vs.reverse ds.reverse
  | _, _, .nil => .nil
  | _, _, .cons a t => by
    rw [List.reverse_cons, List.reverse_cons]
    exact dpAll_append (dpAll_rev t) (.cons a .nil)
theorem sem_revL {t : TE} {f : En → R SV} (h : SemE c false t f) : SemE c true (tRevL c.K t) (una revS f) := by
  intro B H0 Hf H σ ρ Q I o
  refine h B H0 Hf H σ ρ _ I (Out.bind o fun a ea o1 => fun v Hf1 H1 x1 q1 _ => ?_)
  unfold revS at o1
  split at o1
  · rename_i xs e
    obtain ⟨p, vs, rfl, h1, h2⟩ := datL_ok x1.i q1 e
    exact ⟨_, _, rfl, h1, fun q hq => GE.newL (GE.grow (show GE c true Hf H Q _ from o1) x1) x1.i hq (dpAll_rev h2)⟩
  · exact o1.elim
/-! ### range with a step -/
def rng3 (i c : Int) (n : Nat) : List D := (List.range n).map fun k => .int (i + (k : Nat) * c)
def rngD3 (f : En → R (List SV)) : En → R (List D) := fun ρ => f ρ >>= fun a => match a with
  | [.d (.int i), .d (.int j), .d (.int k)] => if 0 < k ∧ k < 1073741824 ∧ Builtin.Range.small i j k = true then .ok (rng3 i k (if i < j then (j - i - 1) / k + 1 else 0).toNat) else .bad
  | _ => .bad
theorem walks_rng3 {K : PySem.W.Frag} {Hf : Hp} {i k : Int} {n : Nat} : Walks K (Itc i k n) Hf (rng3 i k n) := by
  refine ⟨YFn fun m => .int (i + (m : Nat) * k), ?_, fun m H x H' Hfi hl s1 s2 y => ?_⟩
  · have w := @walk_rangeC i k n
    unfold rng3
    rw [List.length_map, List.length_range]
    exact w.mono (fun _ _ => trivial) fun _ _ _ _ _ _ y => y
  · obtain ⟨rfl, rfl⟩ := y
    unfold rng3 at hl ⊢
    rw [List.length_map] at hl
    refine ⟨.int (i + (m : Nat) * k), Hfi, ?_, .refl s2, .int _⟩
    rw [List.getElem?_map, List.getElem?_range (by simpa using hl)] <;> rfl
theorem sem_rng3 {t : TA} {f : En → R (List SV)} (h : SemB c t f) : SemI c (iRng3 t) (rngD3 f) := by
  intro B H0 Hf H σ ρ Rr I o
  refine h B H0 Hf H σ ρ _ I (Out.bind o fun rs ers o1 => fun vs Hf1 H1 x1 q1 => ?_)
  split at o1
  · rename_i i j k
    split at o1
    · rename_i hj
      cases q1 with
      | cons a b =>
        cases b with
        | cons b d =>
          cases d with
          | cons d e =>
            cases e; cases a; cases b; cases d
            refine ⟨i, j, k, (if i < j then (j - i - 1) / k + 1 else 0).toNat, rfl, ⟨by omega, by omega, hj.2.2, ?_⟩, (show ∀ J Hf' H', Ext Hf H Hf' H' → Walks c.K J Hf' _ → Rr J H' from o1) _ Hf1 H1 x1 walks_rng3⟩
            unfold Builtin.Range.rangeSize
            rw [if_pos hj.1]
            by_cases hij : i < j
            · rw [if_pos hij]
              have := Int.ediv_nonneg (show 0 ≤ j - i - 1 by omega) (show 0 ≤ k by omega)
              omega
            · rw [if_neg hij]; rfl
    · exact o1.elim
  · exact o1.elim
/-! ### a text some times -/
def rMulS : R2 := fun x y H Q => ∃ z n, x = .str z ∧ y = .int n ∧ MulOk z n ∧ Q (.str (Txt.mul z n)) H
theorem op_mulS {X : Cx} : OpR X (binaryOp .Mult) rMulS := by
  intro pins s σ H x y v u Q I rx ry h
  obtain ⟨z, n, rfl, rfl, ok, q⟩ := h
  obtain ⟨t, rfl⟩ := rx
  obtain ⟨t', rfl⟩ := ry
  exact SB.mul ok fun t2 k => ⟨.str _, H, I.tok _, ⟨_, rfl⟩, q⟩
abbrev rMulA : R2 := fun x y H Q => rI CMul (fun i j => .int (i * j)) x y H Q ∨ rMulS x y H Q
theorem o_mul {X : Cx} : OpR X (binaryOp .Mult) rMulA := Pl.OpR.or op_mul op_mulS
def mulA (a b : SV) : R SV := match a, b with
  | .d (.str z), .d (.int n) => if 1 ≤ n ∧ n ≤ 1000 ∧ z.length ≤ 1000 then .ok (.d (.str (Txt.mul z n))) else .bad
  | a, b => mulS a b
theorem mulOk_of {z : Str} {n : Int} (h : 1 ≤ n ∧ n ≤ 1000 ∧ z.length ≤ 1000) : MulOk z n := by
  obtain ⟨h1, h2, h3⟩ := h
  refine ⟨?_, fun _ _ => ?_, fun _ _ => ?_⟩
  · rw [decide_eq_false (show ¬ n < -(2 ^ 63 : Int) by omega), decide_eq_false (show ¬ n ≥ 2 ^ 63 by omega)] <;> rfl
  · have : (1000 : Int) ≤ (2 ^ 63 - 1) / n := Int.le_ediv_of_mul_le (by omega) (by omega)
    omega
  · have q : z.length * n.toNat ≤ 1000 * 1000 := Nat.mul_le_mul h3 (by omega)
    have hz := sizeLine_eq
    unfold Builtin.Str.tooLong
    first
      | exact decide_eq_false (by omega)
      | (simp; omega)
theorem r2_mulA : R2ok c rMulA mulA := by
  intro Hf H x y rx ry Q i hx hy o
  unfold mulA at o
  split at o
  · split at o
    · rename_i h
      cases hx; cases hy
      exact .inr ⟨_, _, rfl, rfl, mulOk_of h, GE.now o i (.str _)⟩
    · exact o.elim
  · exact .inl (r2_mul Hf H x y _ _ Q i hx hy o)
end
end Pl
namespace Pl
open PySem PySem.Spec PyProof.Rows L2
section
variable {c : Ct}
/-! ### a list of this frame walked while it stays this frame's -/
theorem Ext.deep {B H0 H0' Hf H X Y : Hp} (g : Same H0 H0') (x : Ext B H0 Hf H) (y : Ext Hf H0' X Y) : Ext B H0 X Y :=
  ⟨x.f.trans y.f, g.trans y.h, y.i, fun p e => by
    rcases y.n p e with z | z
    · exact x.n p z
    · exact .inr (g.free z)⟩
theorem loop_pinned {is : List Nat} {g : TG} {tb : TS} {k : D → En → R En} {b : En → R Fl} (hg : SemG c is g k) (hb : SemS c tb b) {B : Bs} {H0 Hf H : Hp} {σ : L2.St} {ρ : En} {Dn : Ends} {p : Addr} {vs : List V} {xs : List D}
    (I : EnvOk c.K B H0 Hf H σ ρ) (hp : H0 p = some (.lst vs)) (hx : DpAll c.K Hf vs xs) (o : Out c B.h H0 (forF k b xs ρ) (GS c B H0 Dn)) :
    ∃ W : Nat → Nat → L2.St → Hp → Prop, (∃ m, W 0 m σ H) ∧ ∀ i m σ H, W i m σ H →
      ((Itl c.K p).stop i H ∧ Dn.nx σ H) ∨ ((Itl c.K p).go i H ∧ ∃ N : L2.St → Hp → Prop, (∀ σ' H', N σ' H' → ∃ m', m' < m ∧ W (i + 1) m' σ' H') ∧ ∀ x H', (Itl c.K p).yld i H x H' → g x σ H' fun σ2 H2 => tb { Dn with nx := N, ct := N, bk := Dn.nx } σ2 H2) := by
  have hl := dpAll_len hx
  refine for_it (walk_list (K := c.K) (a := p) (xs := vs)) (fun i σ H => i ≤ xs.length ∧ ∃ Hfi ρ, Same Hf Hfi ∧ EnvOk c.K B H0 Hfi H σ ρ ∧ Out c B.h H0 (forF k b (xs.drop i) ρ) (GS c B H0 Dn)) ⟨Nat.zero_le _, Hf, ρ, .refl _, I, o⟩ (fun i σ H _ ⟨_, Hfi, ρ, s, I, _⟩ => .inl (.inl (I.ext.h _ _ hp))) ?_ ?_
  · rintro i x σ H H' hlt ⟨_, Hfi, ρ, s, I, o⟩ ⟨rfl, y⟩
    rw [hl] at hlt
    obtain ⟨d, e1, q⟩ := dpAll_getV hx y
    have q := dp_mono s q
    have ed : xs.drop i = d :: xs.drop (i + 1) := by
      rw [List.drop_eq_getElem_cons hlt]
      rw [List.getElem?_eq_getElem hlt] at e1
      cases e1; rfl
    rw [ed] at o
    unfold forF at o
    cases ek : k d ρ with
    | bad => simp only [ek] at o; exact o.elim
    | ex n as => simp only [ek] at o; exact o.elim
    | ok ρ1 =>
      simp only [ek] at o
      refine hg B H0 Hfi _ σ ρ x d _ I q ⟨ρ1, ek, fun σ1 _ _ I3 => ?_⟩
      have xb : Ext B.h H0 Hfi _ := I.ext
      refine hb ⟨Hfi, B.fx⟩ H0 Hfi _ σ1 ρ1 _ I3.rebase ?_
      cases eb : b ρ1 with
      | bad => rw [eb] at o; exact o.elim
      | ex n as => rw [eb] at o; exact ExW.rebase (show ExW c B.h H0 n as from o) xb
      | ok fl =>
        rw [eb] at o
        cases fl with
        | nx ρ2 => exact fun Hf2 H2 σ2 J2 => ⟨hlt, Hf2, ρ2, s.trans J2.ext.f, J2.unbase xb, o⟩
        | ct ρ2 => exact fun Hf2 H2 σ2 J2 => ⟨hlt, Hf2, ρ2, s.trans J2.ext.f, J2.unbase xb, o⟩
        | bk ρ2 => exact fun Hf2 H2 σ2 J2 => (show GS c B H0 Dn (.nx ρ2) from o) _ _ _ (J2.unbase xb)
        | rt r => exact GS.rebase (show GS c B H0 Dn (.rt r) from o) xb
  · rintro σ H ⟨_, Hfi, ρ, s, I, o⟩
    rw [hl, List.drop_length] at o
    exact (show GS c B H0 Dn (.nx ρ) from o) _ _ _ I
def unpin (i : Nat) : Fl → R Fl
  | .nx ρ => (match ρ[i]? with
    | some (some (.pin ys)) => .ok (.nx (ρ.set i (some (.ol ys))))
    | _ => .bad)
  | .rt r => .ok (.rt r)
  | _ => .bad
def forP (i : Nat) (k : D → En → R En) (b : En → R Fl) : En → R Fl := fun ρ => match ρ[i]? with
  | some (some (.ol xs)) => forF k b xs (ρ.set i (some (.pin xs))) >>= unpin i
  | some (some (.pin xs)) => forF k b xs ρ
  | some (some (.d (.list xs))) => forF k b xs ρ
  | some (some (.d (.tuple xs))) => forF k b xs ρ
  | _ => .bad
open Classical in
theorem sem_forP {i : Nat} {is : List Nat} {g : TG} {tb : TS} {k : D → En → R En} {b : En → R Fl} (hg : SemG c is g k) (hb : SemS c tb b) : SemS c (tFor (iSeq c.K (tVar i)) g tb) (forP i k b) := by
  intro B H0 Hf H σ ρ Dn I o
  unfold forP at o
  have hd : ∀ (x : D) (xs : List D), ρ[i]? = some (some (.d x)) → (x = .list xs ∨ x = .tuple xs) → Out c B.h H0 (forF k b xs ρ) (GS c B H0 Dn) → tFor (iSeq c.K (tVar i)) g tb Dn σ H := by
    intro x xs e hx o
    refine sem_for (sem_seqI (sem_var (i := i))) hg hb B H0 Hf H σ ρ Dn I ?_
    unfold forS seqD getV
    rw [e]
    rcases hx with rfl | rfl <;> exact o
  split at o
  · rename_i xs e
    obtain ⟨v, h1, p, vs, rfl, h2, h3, h4⟩ := I.sl i _ e
    have hn := I.new i _ p e rfl h1
    have hi : i < ρ.length := (List.getElem?_eq_some_iff.mp e).1
    have g0 : Same H0 (upd H0 p (.lst vs)) := upd_grow hn
    have keep : ∀ {q : Addr} {o' : HO}, H0 q = some o' → B.h q = none → Hf q = none := fun {q o'} a1 a2 => by
      cases z : Hf q with
      | none => rfl
      | some o'' =>
        rcases I.ext.n q (by rw [z]; exact fun z => nomatch z) with w | w
        · exact absurd a2 w
        · rw [a1] at w; cases w
    have I' : EnvOk c.K ⟨Hf, fun j => if j = i then .ref p else if B.fx j = .ref p then .non else B.fx j⟩ (upd H0 p (.lst vs)) Hf H σ (ρ.set i (some (.pin xs))) := by
      refine ⟨⟨.refl _, fun b' o' eb => ?_, I.i, fun _ z => .inl z⟩, by rw [List.length_set]; exact I.len, fun j s ej => ?_, fun j s q ej oj es => ?_, fun j l sj sl q ej oj el ol e1 e2 => ?_, fun j ys ej => ?_⟩
      · by_cases z : b' = p
        · subst z; rw [upd_same] at eb; cases eb; exact h2
        · rw [upd_ne z] at eb; exact I.ext.h _ _ eb
      · rcases set_get ej with ⟨rfl, ej, _⟩ | ⟨_, ej⟩
        · cases ej; exact ⟨_, h1, p, vs, rfl, h2, h3, h4⟩
        · exact I.sl j s ej
      · rcases set_get ej with ⟨rfl, ej, _⟩ | ⟨hj, ej⟩
        · cases ej; cases oj
        · have hq : q ≠ p := fun z => hj (I.sep j i _ _ p ej oj e rfl (z ▸ es) h1)
          rw [upd_ne hq]; exact I.new j s q ej oj es
      · rcases set_get ej with ⟨rfl, ej, _⟩ | ⟨hj, ej⟩
        · cases ej; cases oj
        · rcases set_get el with ⟨rfl, el, _⟩ | ⟨hl, el⟩
          · cases el; cases ol
          · exact I.sep j l sj sl q ej oj el ol e1 e2
      · rcases set_get ej with ⟨rfl, ej, _⟩ | ⟨hj, ej⟩
        · exact ⟨p, .lst vs, if_pos rfl, h1, upd_same, h3⟩
        · obtain ⟨q, o', a1, a2, a3, a4⟩ := I.pin j ys ej
          have hq : q ≠ p := fun z => by rw [z, hn] at a3; cases a3
          refine ⟨q, o', ?_, a2, by rw [upd_ne hq]; exact a3, keep a3 a4⟩
          show (if j = i then V.ref p else if B.fx j = .ref p then .non else B.fx j) = .ref q
          rw [if_neg hj, if_neg (by rw [a1]; exact fun z => hq (by cases z; rfl)), a1]
    have back : ∀ {Hf2 H2 : Hp} {σ2 : L2.St} {ρ2 : En} {ys : List D}, EnvOk c.K ⟨Hf, fun j => if j = i then .ref p else if B.fx j = .ref p then .non else B.fx j⟩ (upd H0 p (.lst vs)) Hf2 H2 σ2 ρ2 → ρ2[i]? = some (some (.pin ys)) → EnvOk c.K B H0 Hf2 H2 σ2 (ρ2.set i (some (.ol ys))) := by
      intro Hf2 H2 σ2 ρ2 ys J e2
      obtain ⟨p', o', b1, b2, b3, b4⟩ := J.pin i ys e2
      have b1' : V.ref p = .ref p' := (if_pos rfl).symm.trans b1
      cases b1'
      refine ⟨Ext.deep g0 I.ext J.ext, by rw [List.length_set]; exact J.len, fun j s ej => ?_, fun j s q ej oj es => ?_, fun j l sj sl q ej oj el ol e1 e2' => ?_, fun j zs ej => ?_⟩
      · rcases set_get ej with ⟨rfl, ej, _⟩ | ⟨_, ej⟩
        · cases ej
          obtain ⟨v', c1, c2⟩ := J.sl j (.pin ys) e2
          exact ⟨v', c1, c2⟩
        · exact J.sl j s ej
      · rcases set_get ej with ⟨rfl, ej, _⟩ | ⟨hj, ej⟩
        · rw [b2] at es; cases es; exact hn
        · exact g0.free (J.new j s q ej oj es)
      · rcases set_get ej with ⟨rj, _, _⟩ | ⟨hj, ej2⟩
        · rcases set_get el with ⟨rl, _, _⟩ | ⟨hl, el2⟩
          · rw [rj, rl]
          · rw [rj, b2] at e1; cases e1
            have := J.new l sl p el2 ol e2'
            rw [upd_same] at this; cases this
        · rcases set_get el with ⟨rl, _, _⟩ | ⟨hl, el2⟩
          · rw [rl, b2] at e2'; cases e2'
            have := J.new j sj p ej2 oj e1
            rw [upd_same] at this; cases this
          · exact J.sep j l sj sl q ej2 oj el2 ol e1 e2'
      · rcases set_get ej with ⟨rfl, ej, _⟩ | ⟨hj, ej⟩
        · cases ej
        · obtain ⟨q, o'', a1, a2, a3, a4⟩ := J.pin j zs ej
          have a1' : (if j = i then V.ref p else if B.fx j = .ref p then .non else B.fx j) = .ref q := a1
          rw [if_neg hj] at a1'
          by_cases z : B.fx j = .ref p
          · rw [if_pos z] at a1'; cases a1'
          · rw [if_neg z] at a1'
            have hq : q ≠ p := fun w => z (by rw [a1', w])
            rw [upd_ne hq] at a3
            exact ⟨q, o'', a1', a2, a3, I.ext.f.free a4⟩
    refine .inl ⟨.ref p, h1, p, rfl, ⟨vs, .inl (.inl h2)⟩, loop_pinned hg hb I' (by exact upd_same) h4 ?_⟩
    cases ef : forF k b xs (ρ.set i (some (.pin xs))) with
    | bad => rw [ef] at o; exact o.elim
    | ex n as =>
      rw [ef] at o
      exact fun Hf' H' od y r => (show ExW c B.h H0 n as from o) Hf' H' od (Ext.deep g0 I.ext y) r
    | ok fl =>
      rw [ef, ok_bind] at o
      cases fl with
      | nx ρ2 =>
        unfold unpin at o
        dsimp only at o
        split at o
        · rename_i ys e2
          exact fun Hf2 H2 σ2 J => (show GS c B H0 Dn (.nx (ρ2.set i (some (.ol ys)))) from o) _ _ _ (back J e2)
        · exact o.elim
      | rt r => exact fun v Hf2 H2 y q fr => (show GS c B H0 Dn (.rt r) from o) v Hf2 H2 (Ext.deep g0 I.ext y) q fun ho pp ep => g0.free (fr ho pp ep)
      | bk ρ2 => exact o.elim
      | ct ρ2 => exact o.elim
  · rename_i xs e
    obtain ⟨v, h1, p, vs, rfl, h2, h3, h4⟩ := I.sl i _ e
    obtain ⟨p', o', _, b2, b3, _⟩ := I.pin i xs e
    rw [h1] at b2; cases b2
    have := I.ext.h _ _ b3
    rw [h2] at this; cases this
    exact .inl ⟨.ref p, h1, p, rfl, ⟨vs, .inl (.inl h2)⟩, loop_pinned hg hb I b3 h4 o⟩
  · rename_i xs e
    exact hd _ xs e (.inl rfl) o
  · rename_i xs e
    exact hd _ xs e (.inr rfl) o
  · exact o.elim
end
end Pl
namespace Pl
open PySem PySem.Spec PyProof.Rows L2
/-! ### enumerate of a list or a tuple -/
set_option maxHeartbeats 4000000 in
theorem meets_enum1 {v : Value} {o : Obj} {H : Heap → Prop} (B : Begins v o H) :
    Meets (Builtin.«enumerate.__new__» ⟨[.type "enumerate", v], []⟩) (fun _ R s => H s.heap ∧
      R (.ok (.ret (.ref (s.heap.push o).objs.size))) { s with heap := (s.heap.push o).push { cls := .type "enumerate", data := .fields #[.none, .bool false, .ref s.heap.objs.size, rawInt 0, .none, .none] } }) :=
  .of_wp fun prog w A R s h => by
    obtain ⟨hp, g, d, tk, os⟩ := s; obtain ⟨h1, h⟩ := h
    have hsub := sub_enumerate
    have q1 : ∀ {A' : Around} {E : Value → Shared → Prop} {Q : Value → Shared → Prop}, Q (.ref hp.objs.size) ⟨hp.push o, g, d, tk, os⟩ → wpAny (model prog w) A' (pyIter v) Q E ⟨hp, g, d, tk, os⟩ :=
      fun q => B.iter prog w _ _ ⟨hp, g, d, tk, os⟩ _ h1 q
    wp_walk using q1
    refine wpAny_stack_any fun st => wpAny_pure ?_
    split
    · rename_i c _ _ _ _ _
      cases (c == Value.type "enumerate")
      · wp_walk using q1
        exact ⟨_, rfl, h⟩
      · wp_walk using q1
        exact ⟨_, rfl, h⟩
    · wp_walk using q1
      exact ⟨_, rfl, h⟩
theorem call_enum1 {prog : Program} {w : World} {A : Around} {E : Value → Shared → Prop} {s : Shared} {v : Value} {o : Obj} {H : Heap → Prop} {Q : Value → Shared → Prop} (B : Begins v o H) (h1 : H s.heap)
    (h : ∀ h', IsEnum h' (s.heap.objs.size + 1) s.heap.objs.size 0 .none → h'.get? s.heap.objs.size = some o → h'.objs.size = s.heap.objs.size + 2 →
      (∀ b o, s.heap.get? b = some o → h'.get? b = some o) → Q (.ref (s.heap.objs.size + 1)) { s with heap := h' }) :
    wpAny (model prog w) A (call (.type "enumerate") [v]) Q E s := by
  refine callType_new F.called_enumerate (by decide) (F.typeCall_enumerate_1 _) (F.newCall_enumerate_1 _) (fun obj => F.args_object_init_2 obj _) F.entry_enumerate_new
    (meets_enum1 B) ⟨h1, ?_⟩
  have hz : (s.heap.push o).objs.size = s.heap.objs.size + 1 := Heap.size_push ..
  show _ ∧ _
  rw [hz]
  have he : IsEnum ((s.heap.push o).push { cls := .type "enumerate", data := .fields #[.none, .bool false, .ref s.heap.objs.size, rawInt 0, .none, .none] }) (s.heap.objs.size + 1) s.heap.objs.size 0 .none := by
    have := Heap.get?_push_size (s.heap.push o) (o := { cls := .type "enumerate", data := .fields #[.none, .bool false, .ref s.heap.objs.size, rawInt 0, .none, .none] }) rfl
    rw [hz] at this; exact this
  refine ⟨⟨_, he, rfl⟩, h _ he (Heap.get?_push_of_some _ (Heap.get?_push_size _ B.free)) (by rw [Heap.size_push, hz]) fun b o x => Heap.get?_push_of_some _ (Heap.get?_push_of_some _ x)⟩
/-- the tuple at a, each item in a new pair -/
def Itet (K : PySem.W.Frag) (a : Addr) : It :=
  ⟨fun i H => ∃ (xs : List V) (x : V), SqT K H a xs ∧ xs[i]? = some x, fun i H v H' => ∃ T x, v = .ref T ∧ H T = none ∧ H' = upd H T (.tup [.int (i : Nat), x]) ∧ ∀ xs, SqT K H a xs → xs[i]? = some x, fun i H => ∃ xs : List V, SqT K H a xs ∧ xs.length = i⟩
theorem turn_enumT {P : Program} {w : World} {K : PySem.W.Frag} {elts : List Expr} {kk : Nat} {tpos : Pos} (a e it : Addr) :
    Turn P w K (.Tuple elts kk tpos) (Itet K a) [e, it] e (fun i h => (∃ old, IsEnum h e it ((i : Nat) : Int) old) ∧ h.IsTupleIter it a i ∧ e ≠ it ∧ a ≠ it ∧ e ≠ a) where
  mem := by simp
  obj := fun i h st b hb => by
    obtain ⟨⟨old, he⟩, ⟨o, ho, hc, hd⟩, _⟩ := st
    have e' : b = e ∨ b = it := by simpa using hb
    rcases e' with z | z
    · rw [z]; exact ⟨_, he, fun v q => nomatch q⟩
    · rw [z]; exact ⟨o, ho, fun v q => by rw [hd] at q; cases q⟩
  keep := fun i h h' st k => let ⟨⟨old, he⟩, hi, hne⟩ := st; ⟨⟨old, k e (by simp) _ he⟩, hi.at fun o q => k it (by simp) o q, hne⟩
  item := by
    intro X hP hw hK hc i pins s σ H E I hf st hg
    subst hP hw hK
    obtain ⟨⟨old, he⟩, hit, hne, hai, hea⟩ := st
    obtain ⟨xs, x, hq, hx⟩ := hg
    obtain ⟨its, rv, p, hz⟩ := I.tuple hq
    obtain ⟨u, hu, ru⟩ := rv.get hx
    have hel : e < s.heap.objs.size := Heap.lt_size he
    have hil : it < s.heap.objs.size := by obtain ⟨_, q, _⟩ := hit; exact Heap.lt_size q
    have p' : s.heap.IsTuple a its.toArray := p
    have hlt : i < its.toArray.size := by
      have := (List.getElem?_eq_some_iff.mp hu).1
      simpa using this
    refine wpAny_pyNext_enum_itemD (Draws.tuple (A := X.A.in1) (I.ok.hd hc) it a hai its.toArray) he ⟨hit, p'⟩ hlt hne (by simp [hne, hea]) fun u' h' tk hP' ho st' hT hsz hk => ?_
    have eu : u' = u := by
      rw [show its.toArray[i]? = its[i]? by simp] at hP'
      rw [hu] at hP'; exact (Option.some.inj hP').symm
    subst eu
    refine ⟨_, rfl, wpAny_letOwnedTupleGo_enum (s := { s with heap := h', toks := tk + 1 }) ho fun h'' he' sb => ?_⟩
    have hT2 : h''.get? s.heap.objs.size = some { cls := .type "tuple", data := .seq #[.int i tk, u'] } := (sb.2 _ (Nat.ne_of_gt hel)).trans hT
    have new : ObjOk X.prog X.w (upd H s.heap.objs.size (.tup [.int (i : Nat), x])) h'' s.heap.objs.size (.tup [.int (i : Nat), x]) :=
      ⟨by show 2 ≤ sizeLine; decide, [.int i tk, u'], .cons ⟨_, rfl⟩ (.cons ru .nil), ⟨_, hT2, rfl, _, rfl⟩⟩
    have I1 : Inv X pins σ (upd H s.heap.objs.size (.tup [.int (i : Nat), x])) { s with heap := h'', toks := tk + 1 } :=
      I.turnedNew (ch := [e, it]) (fun b ob hb q => (sb.2 b (fun z => hb (by simp [z]))).trans (hk b ob (fun z => hb (by simp [z])) (fun z => hb (by simp [z])) q)) hf (Nat.le_refl _) new
    refine ⟨.ref s.heap.objs.size, _, I1, rfl, ⟨_, x, rfl, I.hok.fresh (Nat.le_refl _), rfl, fun ys hy => by rw [I.tuple_inj hy hq]; exact hx⟩, ⟨⟨u', ?_⟩, st'.1.at fun o q => (sb.2 it (Ne.symm hne)).trans q, hne, hai, hea⟩, fun b hb => ?_⟩
    · have e1 : ((i + 1 : Nat) : Int) = (i : Int) + 1 := by omega
      rw [e1]; exact he'
    · have hb' : b < s.heap.objs.size := by
        have e' : b = e ∨ b = it := by simpa using hb
        rcases e' with z | z
        · rw [z]; exact hel
        · rw [z]; exact hil
      rw [upd_ne (Nat.ne_of_lt hb')]
      exact (hf b hb).1
  done := by
    intro X hP hw hK hc i pins s σ H E I hf st hg
    subst hP hw hK
    obtain ⟨⟨old, he⟩, hit, hne, hai, hea⟩ := st
    obtain ⟨xs, hq, hx⟩ := hg
    obtain ⟨its, rv, p, hz⟩ := I.tuple hq
    obtain ⟨f0, f1, f2, f3, f4, f5⟩ := hf it (by simp)
    have hl := rv.length
    have p' : s.heap.IsTuple a its.toArray := p
    have hi : its.toArray.size = i := by simp; omega
    exact wpAny_pyNext_enum_endD (n := its.toArray.size) (Draws.tuple (A := X.A.in1) (I.ok.hd hc) it a hai its.toArray) he ⟨hi ▸ hit, p'⟩ fun h' eb => ⟨rfl, I.turned (t' := s.toks) (fun b o hb q => eb b o hb q) f0 f1 f3 f4 f5⟩
  self := fun A i s Q E st h => let ⟨⟨_, he⟩, _⟩ := st; wpAny_pyIter_enum he h
def iEnumT (K : PySem.W.Frag) (ta : TA) : TI := fun σ H R => ta σ H fun vs H1 => ∃ a xs, vs = [.ref a] ∧ SqT K H1 a xs ∧ R (Itet K a) H1
theorem pi_enumT {X : Cx} {e : Expr} {ta : TA} {p pos tpos : Pos} {elts : List Expr} {kk : Nat} (hg : Gl X "enumerate") (hm : X.mg "enumerate" = none) (ha : PA X [e] ta) (hs : starEach [e] X.env = [(false, eval e X.env)] := by rfl) :
    PI X (.Tuple elts kk tpos) (.Call (.Name "enumerate" p) [e] [] pos) (iEnumT X.K ta) := by
  refine ⟨fun pins s σ H R I h => ?_⟩
  refine Call_ (ld_blt I hg hm boot_enumerate (PyProof.Rows.callWith_type1 (thn (ha.run pos pins s σ H _ I h) fun us s1 ⟨vs, H1, I1, r1, q1⟩ => ?_) hs rfl))
  obtain ⟨a, xs, ex, hq, q⟩ := q1
  subst ex
  cases r1 with
  | cons r rr =>
    cases rr
    cases r
    obtain ⟨its, rv, p', hz⟩ := I1.tuple hq
    have p2 : s1.heap.IsTuple a its.toArray := p'
    have hal : a < s1.heap.objs.size := by obtain ⟨_, q, _⟩ := p2; exact Heap.lt_size q
    refine call_enum1 (begins_tuple a its.toArray) p2 fun h' he hit hsz hk => wpAny_pyIter_enum he ?_
    have I2 : Inv X pins σ H1 { s1 with heap := h' } := I1.kept (t' := s1.toks) hk
    refine ⟨s1.heap.objs.size + 1, [s1.heap.objs.size + 1, s1.heap.objs.size], _, _, H1, rfl, I2, turn_enumT a (s1.heap.objs.size + 1) s1.heap.objs.size, ⟨⟨.none, he⟩, ⟨_, hit, rfl, rfl⟩, Nat.succ_ne_self _, Nat.ne_of_lt hal, Nat.ne_of_gt (Nat.lt_succ_of_lt hal)⟩, fun b hb => ?_, q⟩
    have e' : b = s1.heap.objs.size + 1 ∨ b = s1.heap.objs.size := by simpa using hb
    have hle : s1.heap.objs.size ≤ b := by
      rcases e' with z | z
      · rw [z]; exact Nat.le_add_right _ _
      · rw [z]; exact Nat.le_refl _
    exact I1.fpOk hle (I1.hok.fresh hle)
theorem walk_enumT {K : PySem.W.Frag} {a : Addr} {xs : List V} : Walk (Itet K a) xs.length (fun H => SqT K H a xs) (YPair (fun i => some (.int (i : Nat))) (fun i => xs[i]?)) :=
  ⟨fun i H hi h => ⟨xs, xs[i], h, List.getElem?_eq_getElem hi⟩, fun H h => ⟨xs, h, rfl⟩, fun i H x H' hi h y => by
    obtain ⟨T, z, e1, e2, e3, e4⟩ := y
    exact ⟨T, .int (i : Nat), z, e1, e2, e3, rfl, e4 xs h⟩⟩
section
variable {c : Ct}
def pairUp (xs : List D) : List D := (List.range xs.length).zipWith (fun i x => .tuple [.int (i : Nat), x]) xs
theorem pairUp_at {xs : List D} {i : Nat} {x : D} (h : xs[i]? = some x) : (pairUp xs)[i]? = some (.tuple [.int (i : Nat), x]) := by
  unfold pairUp
  have hi : i < xs.length := (List.getElem?_eq_some_iff.mp h).1
  rw [List.getElem?_zipWith, List.getElem?_range hi, h]
@[simp] theorem pairUp_len (xs : List D) : (pairUp xs).length = xs.length := by unfold pairUp; simp
theorem walks_pair {K : PySem.W.Frag} {J : It} {Hf : Hp} {vs : List V} {xs : List D} (h : DpAll K Hf vs xs) (w : Walk J vs.length (fun H => Same Hf H) (YPair (fun i => some (.int (i : Nat))) (fun i => vs[i]?))) : Walks K J Hf (pairUp xs) := by
  refine ⟨_, by rw [pairUp_len, ← dpAll_len h]; exact w, fun i H x H' Hfi hi s1 s2 y => ?_⟩
  obtain ⟨T, a, b, rfl, e2, rfl, e4, e5⟩ := y
  cases e4
  obtain ⟨d, d1, d2⟩ := dpAll_getV h e5
  have hn : Hfi T = none := s2.free e2
  have g := upd_grow (o := .tup [V.int (i : Nat), b]) hn
  exact ⟨_, upd Hfi T (.tup [.int (i : Nat), b]), pairUp_at d1, Ext.laid s2 e2, .tup (.inl (.inl upd_same)) (.cons (.int _) (.cons (dp_mono g (dp_mono s1 d2)) .nil))⟩
def enumD (f : En → R SV) : En → R (List D) := fun ρ => f ρ >>= fun a => match a with
  | .d (.list xs) => .ok (pairUp xs)
  | .ol xs => .ok (pairUp xs)
  | .d (.tuple xs) => .ok (pairUp xs)
  | _ => .bad
abbrev iEnumA (K : PySem.W.Frag) (ta : TA) : TI := fun σ H Rr => iEnum K ta σ H Rr ∨ iEnumT K ta σ H Rr
theorem pi_enumA {X : Cx} {e : Expr} {ta : TA} {p pos tpos : Pos} {elts : List Expr} {kk : Nat} (hg : Gl X "enumerate") (hm : X.mg "enumerate" = none) (ha : PA X [e] ta) (hs : starEach [e] X.env = [(false, eval e X.env)] := by rfl) :
    PI X (.Tuple elts kk tpos) (.Call (.Name "enumerate" p) [e] [] pos) (iEnumA X.K ta) := Pl.PI.or (pi_enum hg hm ha hs) (pi_enumT hg hm ha hs)
theorem sem_enum {te : TE} {f : En → R SV} (h : SemE c true te f) : SemI c (iEnumA c.K (tCons te tNil)) (enumD f) := by
  intro B H0 Hf H σ ρ Rr I o
  have lists : ∀ (r : SV) (xs : List D), (r = .d (.list xs) ∨ r = .ol xs) → f ρ = .ok r → (∀ J Hf' H', Ext Hf H Hf' H' → Walks c.K J Hf' (pairUp xs) → Rr J H') → iEnumA c.K (tCons te tNil) σ H Rr := by
    intro r xs er ef k
    refine .inl (h B H0 Hf H σ ρ _ I ?_)
    rw [ef]
    intro v Hf1 H1 x1 q1 fr
    obtain ⟨Hf2, x2, q2⟩ := froze (d := .list xs) x1 q1 (fr rfl) (by rcases er with rfl | rfl <;> rfl)
    cases q2 with
    | lst s1 s2 => exact ⟨_, _, rfl, x2.i.seq s1, k _ Hf2 H1 x2 (walks_pair s2 (walk_enum.mono (fun H e => e.seq s1) fun _ _ _ _ _ _ y => y))⟩
  unfold enumD at o
  cases ef : f ρ with
  | bad => rw [ef] at o; exact o.elim
  | ex n as =>
    rw [ef] at o
    refine .inl (h B H0 Hf H σ ρ _ I ?_)
    rw [ef]; exact o
  | ok r =>
    rw [ef, ok_bind] at o
    split at o
    · exact lists _ _ (.inl rfl) ef o
    · exact lists _ _ (.inr rfl) ef o
    · refine .inr (h B H0 Hf H σ ρ _ I ?_)
      rw [ef]
      intro v Hf1 H1 x1 q1 fr
      cases q1 with
      | tup s1 s2 => exact ⟨_, _, rfl, sqT_mono x1.i s1, (show ∀ J Hf' H', Ext Hf H Hf' H' → Walks c.K J Hf' _ → Rr J H' from o) _ Hf1 H1 x1 (walks_pair s2 (walk_enumT.mono (fun H e => sqT_mono e s1) fun _ _ _ _ _ _ y => y))⟩
    · exact o.elim
/-! ### a written list, times -/
def repS (a b : SV) : R SV := match a, b with
  | .ol xs, .d (.int n) => if 0 ≤ n ∧ n ≤ 1000 ∧ xs.length ≤ 1000 then .ok (.ol (List.replicate n.toNat xs).flatten) else .bad
  | _, _ => .bad
theorem dpAll_rep {K : PySem.W.Frag} {H : Hp} {vs : List V} {ds : List D} (h : DpAll K H vs ds) : ∀ n : Nat, DpAll K H (List.replicate n vs).flatten (List.replicate n ds).flatten
  | 0 => .nil
  | n + 1 => by
    rw [List.replicate_succ, List.replicate_succ, List.flatten_cons, List.flatten_cons]
    exact dpAll_append h (dpAll_rep h n)
theorem r2_rep : R2ok c rRep repS := by
  intro Hf H x y rx ry Q i hx hy o
  unfold repS at o
  split at o
  rotate_left
  · exact o.elim
  rename_i xs n
  split at o
  rotate_left
  · exact o.elim
  rename_i hn
  cases hy
  obtain ⟨p, vs, rfl, h1, h2, h3⟩ := hx
  have hz := sizeLine_eq
  have hl := dpAll_len h3
  have hm : vs.length * n.toNat ≤ 1000 * 1000 := Nat.mul_le_mul (by omega) (by omega)
  exact ⟨p, n, vs, rfl, rfl, h1, by omega, by omega, by omega, fun q hq => GE.newL (show GE c true Hf H Q (.ol _) from o) i hq (dpAll_rep h3 _)⟩
end
end Pl
namespace Pl
open PySem PySem.Spec PyProof.Rows L2
/-! ### math.lcm -/
theorem lcm_le (m n : Nat) : m.lcm n ≤ m * n := by
  unfold Nat.lcm
  exact Nat.div_le_self _ _
theorem run_lcm {prog : Program} {w : World} {A : Around} {E : Value → Shared → Prop} {s : Shared} {Q : Value → Shared → Prop} {a b : Int} {t u : Tok} (ha : a.natAbs < 2 ^ 200) (hb : b.natAbs < 2 ^ 200) (h : Q (.int ((a.natAbs.lcm b.natAbs : Nat) : Int) s.toks) { s with toks := s.toks + 1 }) :
    wpAny (model prog w) A (call (.builtin "math.lcm") [.int a t, .int b u]) Q E s := by
  have h1 : (max 1 a.natAbs).log2 ≤ 199 := PySem.W.mg_log (by rw [Nat.max_lt]; exact ⟨by decide, ha⟩)
  have h2 : (max a.natAbs b.natAbs).log2 ≤ 199 := PySem.W.mg_log (by rw [Nat.max_lt]; exact ⟨ha, hb⟩)
  have e : Nat.lcm 1 a.natAbs = a.natAbs := PySem.W.mc_lcm_one _
  have hsz : (((((Nat.lcm 1 a.natAbs).lcm b.natAbs : Nat) : Int)).natAbs.log2 < bitsLine) := by
    rw [e]
    exact PySem.W.mc_size (k := 7) (Nat.le_trans (lcm_le _ _) (Nat.le_trans (Nat.mul_le_mul (Nat.le_of_lt ha) (Nat.le_of_lt hb)) (by
      rw [← Nat.pow_add]
      exact Nat.pow_le_pow_right (by decide) (by decide)))) (by decide)
  refine call_function_meets PySem.W.MGF.kind_lcm PySem.W.MGF.plain_lcm PySem.W.MGF.entry_lcm (PySem.W.MGF.args_lcm _ _) (PySem.W.mg_run_lcm a t b u (by omega) (by omega) hsz).meets ?_
  rw [e]; exact h
def rLcm : List V → Hp → VK → Prop := fun vs H Q => ∃ a b : Int, vs = [.int a, .int b] ∧ a.natAbs < 2 ^ 200 ∧ b.natAbs < 2 ^ 200 ∧ Q (.int ((Nat.lcm a.natAbs b.natAbs : Nat) : Int)) H
theorem cr_lcm {X : Cx} : CallR X (.builtin "math.lcm") rLcm := by
  intro pins s σ H vs us Q I r h
  obtain ⟨a, b, rfl, ha, hb, q⟩ := h
  obtain ⟨t, u, rfl⟩ := Vals.int2 r
  exact run_lcm ha hb ⟨.int _, H, I.tok _, ⟨_, rfl⟩, q⟩
section
variable {c : Ct}
def okB (j : Int) : Bool := Nat.blt j.natAbs 100000000000000000000000000000000000000000000000000
theorem okB_of {j : Int} (h : j.natAbs < 100000000000000000000000000000000000000000000000000) : okB j = true := by
  unfold okB; rw [Nat.blt_eq]; exact h
def lcmS : List SV → R SV
  | [.d (.int a), .d (.int b)] => if okB a = true ∧ okB b = true then .ok (.d (.int ((Nat.lcm a.natAbs b.natAbs : Nat) : Int))) else .bad
  | _ => .bad
theorem okB_nat {j : Int} (h : okB j = true) : j.natAbs < 2 ^ 200 := Nat.lt_trans (of_decide_eq_true (by unfold okB at h; rw [Nat.blt_eq] at h; exact decide_eq_true h)) (by decide)
theorem c1_lcm : C1ok c rLcm lcmS := by
  intro Hf H vs rs Q i hr o
  unfold lcmS at o
  split at o
  rotate_left
  · exact o.elim
  rename_i a b
  split at o
  rotate_left
  · exact o.elim
  rename_i hk
  cases hr with
  | cons h1 h2 =>
    cases h2 with
    | cons h2 h3 =>
      cases h3; cases h1; cases h2
      exact ⟨a, b, rfl, okB_nat hk.1, okB_nat hk.2, GE.now (show GE c true Hf H Q (.d _) from o) i (.int _)⟩
end
end Pl
/-! PlB: own exceptions: raise C(), try with one statement, isinstance of a caught error. -/
namespace L2
open PySem PySem.Spec PyProof.Rows
/-- C() of an own class without own __init__ -/
theorem pmk_own0 {X : Cx} {C : Addr} {bmB : List Value} {B newId initId : String} {x : Str} {p pos : Pos} (F : ExcBaseFacts B newId initId bmB) (q : PySem.W.excIn X.K C bmB newId = true) (gC : X.mg x = some (.ref C)) (kC : PySem.W.keepIn X.K (.ref C) = true) (r : Raises X (.ref C)) (hg : Gl X x)
    (hdb : (x == ("__debug__" : Str)) = false := by decide) : PMk X (.Call (.Name x p) [] [] pos) (fun _ H Q => Q (.ref C) none H) := by
  intro pins s σ H Q I h
  refine wpAny_Call_Name_kw (ld_glob I hg gC ?_ hdb)
  refine PySem.W.callWith_K0 I.kIn kC ?_
  obtain ⟨bm, N, nm, qn, bs, hdct, sn, sub, ab, col, dd, k0, k1, k2, k3, k5, mN, hC, hN, hni, T⟩ := exc_obj I.kIn q
  exact wpAny_call_exc_subT F T hC hN hni (fun h' e hm => mk_of I hm r h (I.hok.gone hm.new)) (Nat.zero_le _)
/-- isinstance(e, c), e the exception that the suite holds, of a class with no fields of its own -/
def rIsX (K : PySem.W.Frag) (cls : Value) (d : Option Addr) (a : Addr) : List V → Hp → VK → Prop := fun xs H Q => ∃ (D : Addr) (c : V) (cv : Value) (b : Bool), cls = .ref D ∧ d = none ∧ ExcC K D ∧ xs = [.ref a, c] ∧ (∀ u, RelV c u → u = cv) ∧ PySem.W.kitOne K (.ref D) cv = some b ∧ Q (.bl b) H
theorem call_isX {X : Cx} {a : Addr} {cls : Value} {d : Option Addr} {oe : Obj} {pn : List (Addr × Obj)} (hz : Zc cls d oe) (hf : ∃ vs, oe.data = .fields vs) : CallR (X.suite a ((a, oe) :: pn)) (.builtin "isinstance") (rIsX X.K cls d a) := by
  intro pins s σ H xs us Q I r h
  obtain ⟨D, c, cv, b, rfl, rfl, C, rfl, hcv, e, q⟩ := h
  exact call_isE C hz hf pins s σ H _ us Q I r ⟨c, cv, b, rfl, hcv, e, q⟩
end L2
namespace Pl
open PySem PySem.Spec PyProof.Rows L2
/-! ### the readings by name -/
def tTryAs (K : PySem.W.Frag) (cl : Value) (i : Nat) (tb : WX → TS) (ts : Addr → Value → Option Addr → TS) (Wout : WX) : TS := fun D σ H => tb (wAs K cl i ts Wout D) D σ H
def tTryOn (K : PySem.W.Frag) (cl : Value) (tb : WX → TS) (ts : Addr → Value → Option Addr → TS) (Wout : WX) : TS := fun D σ H => tb (wOnly K cl ts Wout D) D σ H
def tRaise (C : Addr) (E : XK) : TS := fun _ _ H => E (.ref C) none H
def tCallE (sp : Sp) (E : XK) (t : TA) : TE := fun σ H Q => t σ H fun vs H1 => sp vs H1 Q E
def tIsE (K : PySem.W.Frag) (i : Nat) (C a : Addr) (cls : Value) (d : Option Addr) : TE := tCB (rIsX K cls d a) (tCons (tVar i) (tCons (tC (.ref C)) tNil))
/-! ### a def that may raise -/
section
variable {P : Program} {w : World} {K : PySem.W.Frag} {mg : Str → Option Value} {base : Heap}
theorem mk_okX {x qual : Str} {st : Stmt} {f : Addr} {fd : FuncData} {N ps : List Str} {k : Nat} {cm : Nat → Addr × List Str} {b : En → R Fl} (F : Fun K x qual st f fd) (S : FnScope N ps (defScope st))
    (hb : ∀ (cdv : Value) (A : Around) (outer : List Env) (s : Shared) (H : Hp) (E : XK), Room k (A.deeper (envOfC qual (defScope st) s.heap.objs.size f cdv)) →
      ∃ t, PSs (cxOf (L2.CX P w) P w K mg base N qual (defScope st) f cdv A outer s H E) (defBody st) t ∧ ∀ ex : Exi, SemS ⟨⟨K, ex, w⟩, cm, E⟩ t b) :
    FnOk P w K mg base (L2.CX P w) (k + 1) f fd ps (spF w K cm ps.length (runB ps.length N.length b)) := by
  refine F.okX S (fun vs H Q E h => h.1) fun cdv A outer s H vs Q E hr h => ?_
  obtain ⟨t, h1, h2⟩ := hb cdv A outer s H E hr
  exact ⟨t, h1, body_ok (ps := ps) h2 h⟩
/-- what a callee lets out, this def lets out -/
theorem passX {N : List Str} {qual : Str} {sc : Scope} {f : Addr} {cdv : Value} {A : Around} {outer : List Env} {s : Shared} {H : Hp} {E : XK} : Passes (L2.CX P w) (cxOf (L2.CX P w) P w K mg base N qual sc f cdv A outer s H E) E :=
  passes_call (takes_of rfl rfl rfl rfl) fun _ _ _ _ h => h
end
/-- a class of exceptions of the text: n is its number -/
structure Xc (K : PySem.W.Frag) (mg : Str → Option Value) (x : Str) (C : Addr) : Prop where
  g : mg x = some (.ref C)
  e : PySem.W.excIn K C [.type "ValueError", .type "Exception", .type "BaseException", .type "object"] "ValueError.__new__" = true
  k : PySem.W.keepIn K (.ref C) = true
  b : PySem.W.subIn K (.ref C) (.type "BaseException") = some true
  t : PySem.W.typeIn K (.ref C) = some (.type "type")
section
variable {c : Ct}
/-! ### raise -/
def raiseS (n : Nat) : En → R Fl := fun _ => .ex n []
theorem sem_raise {n : Nat} {C : Addr} (hC : c.cm n = (C, [])) : SemS c (fun _ _ H => c.E (.ref C) none H) (raiseS n) := by
  intro B H0 Hf H σ ρ Dn I o
  have z := (show ExW c B.h H0 n [] from o) Hf H none I.ext ⟨rfl, by rw [hC]⟩
  rw [hC] at z
  exact z
/-! ### try -/
def SV.plain : SV → Bool
  | .d _ => true
  | _ => false
/-- the slots without what this frame owns -/
def bareE (ρ : En) : En := ρ.map fun s => match s with
  | some (.d x) => some (.d x)
  | _ => none
theorem bareE_get {ρ : En} {i : Nat} {s : SV} (e : (bareE ρ)[i]? = some (some s)) : ∃ x, s = .d x ∧ ρ[i]? = some (some (.d x)) := by
  unfold bareE at e
  rw [List.getElem?_map] at e
  cases h : ρ[i]? with
  | none => rw [h] at e; cases e
  | some r =>
    rw [h] at e
    cases r with
    | none => cases e
    | some r =>
      cases r with
      | d x => cases e; exact ⟨x, rfl, rfl⟩
      | ol _ => cases e
      | od _ => cases e
      | pin _ => cases e
      | exn _ _ => cases e
      | pd _ => cases e
      | kd _ => cases e
      | sk _ => cases e
      | sd _ => cases e
      | so _ _ => cases e
      | oi _ _ => cases e
theorem EnvOk.bareE {K K' : Kx} {B : Bs} {H0 Hf H : Hp} {σ : L2.St} {ρ : En} (hk : K'.k = K.k) (I : EnvOk K B H0 Hf H σ ρ) : EnvOk K' ⟨Hf, fun _ => .non⟩ H Hf H σ (bareE ρ) := by
  refine ⟨.refl I.i, by rw [I.len]; simp [Pl.bareE], fun i s e => ?_, fun i s p e o => ?_, fun i j si sj p e o => ?_, fun i xs e => ?_⟩
  · obtain ⟨x, rfl, h⟩ := bareE_get e
    obtain ⟨v, h1, h2⟩ := I.sl i _ h
    exact ⟨v, h1, by show Dp K'.k Hf v x; rw [hk]; exact h2⟩
  · obtain ⟨x, rfl, _⟩ := bareE_get e; cases o
  · obtain ⟨x, rfl, _⟩ := bareE_get e; cases o
  · obtain ⟨x, z, _⟩ := bareE_get e; cases z
def noPin (ρ : En) : Bool := ρ.all fun s => match s with
  | some r => r.npin
  | none => true
theorem noPin_get {ρ : En} (h : noPin ρ = true) {i : Nat} {s : SV} (e : ρ[i]? = some (some s)) : s.npin = true :=
  List.all_eq_true.mp h _ (List.mem_of_getElem? e)
/-- what may leave a try -/
def fenceF : Fl → R Fl
  | .nx ρ => if noPin ρ = true then .ok (.nx ρ) else .bad
  | .rt r => if r.npin = true then .ok (.rt r) else .bad
  | _ => .bad
/-- .. and its suite: the error's name goes -/
def outF (i : Nat) : Fl → R Fl
  | .nx ρ => fenceF (.nx (ρ.set i none))
  | z => fenceF z
/-- try: b except C as n: h; n in slot i; hit: which errors are caught -/
def tryAs (i : Nat) (hit : Nat → Bool) (b h : En → R Fl) : En → R Fl := fun ρ => match b (bareE ρ) with
  | .ok fl => fenceF fl
  | .bad => .bad
  | .ex n as => if hit n = true then (h ((bareE ρ).set i (some (.exn n as))) >>= outF i) else .bad
/-- try: b except C: h -/
def tryOn (hit : Nat → Bool) (b h : En → R Fl) : En → R Fl := fun ρ => match b (bareE ρ) with
  | .ok fl => fenceF fl
  | .bad => .bad
  | .ex n as => if hit n = true then (h (bareE ρ) >>= fenceF) else .bad
theorem RepR.swap {K K' : Kx} (hk : K'.k = K.k) (hw : K'.w = K.w) {Hf H : Hp} {v : V} : ∀ {r : SV}, r.npin = true → RepR K' Hf H v r → RepR K Hf H v r
  | .d x, _, h => by have h' : Dp K'.k Hf v x := h; rw [hk] at h'; exact h'
  | .ol xs, _, h => by
    obtain ⟨p, vs, e, h1, h2, h3⟩ := h
    rw [hk] at h3
    exact ⟨p, vs, e, h1, h2, h3⟩
  | .od xs, _, h => by
    obtain ⟨p, vs, e, h1, h2, h3⟩ := h
    rw [hk] at h3
    exact ⟨p, vs, e, h1, h2, h3⟩
  | .pin _, z, _ => by cases z
  | .exn _ _, z, _ => by cases z
  | .pd _, z, _ => by cases z
  | .kd xs, _, h => by
    obtain ⟨p, ep, vs, e, h1, h2, h3⟩ := h
    rw [hk] at h3
    rw [hw] at h1
    exact ⟨p, ep, vs, e, h1, h2, h3⟩
  | .sk xs, _, h => by
    obtain ⟨p, ep, vs, e, h1, h3⟩ := h
    rw [hk] at h3
    rw [hw] at h1
    exact ⟨p, ep, vs, e, h1, h3⟩
  | .sd xs, _, h => by
    obtain ⟨p, vs, e, h1, h3⟩ := h
    rw [hk] at h3
    exact ⟨p, vs, e, h1, h3⟩
  | .so C xs, _, h => by
    obtain ⟨p, dx, vs, e, h1, h3⟩ := h
    rw [hk] at h3
    exact ⟨p, dx, vs, e, h1, h3⟩
  | .oi C xs, _, h => by
    obtain ⟨p, dx, vs, e, h1, h2, h3⟩ := h
    rw [hk] at h3
    exact ⟨p, dx, vs, e, h1, h2, h3⟩
theorem EnvOk.swap {K K' : Kx} (hk : K'.k = K.k) (hw : K'.w = K.w) {B : Bs} {H0 Hf H Hf2 H2 : Hp} {σ : L2.St} {ρ : En} (x : Ext B.h H0 Hf H) (np : noPin ρ = true) (I : EnvOk K' ⟨Hf, fun _ => .non⟩ H Hf2 H2 σ ρ) : EnvOk K B H0 Hf2 H2 σ ρ :=
  ⟨x.trans I.ext, I.len, fun i r e => let ⟨v, h1, h2⟩ := I.sl i r e; ⟨v, h1, h2.swap hk hw (noPin_get np e)⟩, fun i s p e z q => x.h.free (I.new i s p e z q), I.sep, fun i xs e => by cases noPin_get np e⟩
theorem GS.fenced {c c' : Ct} (hk : c'.K.k = c.K.k) (hw : c'.K.w = c.K.w) {B : Bs} {H0 Hf H : Hp} {Dn : Ends} (x : Ext B.h H0 Hf H) : ∀ {fl : Fl}, Out c B.h H0 (fenceF fl) (GS c B H0 Dn) → GS c' ⟨Hf, fun _ => .non⟩ H Dn fl
  | .nx ρ, o => by
    have o' : Out c B.h H0 (if noPin ρ = true then R.ok (Fl.nx ρ) else R.bad) (GS c B H0 Dn) := o
    cases np : noPin ρ with
    | false => rw [np] at o'; exact o'.elim
    | true =>
      rw [np] at o'
      intro Hf2 H2 σ2 I
      exact (show GS c B H0 Dn (.nx ρ) from o') Hf2 H2 σ2 (I.swap hk hw x np)
  | .rt r, o => by
    have o' : Out c B.h H0 (if r.npin = true then R.ok (Fl.rt r) else R.bad) (GS c B H0 Dn) := o
    cases np : r.npin with
    | false => rw [np] at o'; exact o'.elim
    | true =>
      rw [np] at o'
      exact fun v Hf2 H2 y q fr => (show GS c B H0 Dn (.rt r) from o') v Hf2 H2 (x.trans y) (q.swap hk hw np) fun z p e => x.h.free (fr z p e)
  | .bk _, o => o.elim
  | .ct _, o => o.elim
/-- the ends of the suite -/
abbrev endsA (i : Nat) (D : Ends) : Ends := { nx := fun σ' H' => D.nx (σ'.set i none) H', rt := D.rt, bk := fun σ' H' => D.bk (σ'.set i none) H', ct := fun σ' H' => D.ct (σ'.set i none) H' }
theorem EnvOk.goes {K : Kx} {B : Bs} {H0 Hf H : Hp} {σ : L2.St} {ρ : En} (i : Nat) (I : EnvOk K B H0 Hf H σ ρ) : EnvOk K B H0 Hf H (σ.set i none) (ρ.set i none) := by
  have ne : ∀ {j : Nat} {s : SV}, (ρ.set i none)[j]? = some (some s) → j ≠ i ∧ ρ[j]? = some (some s) := fun {j s} e => by
    rcases set_get e with ⟨_, e, _⟩ | ⟨hj, e⟩
    · cases e
    · exact ⟨hj, e⟩
  have at_ : ∀ {j : Nat} {s : SV}, (ρ.set i none)[j]? = some (some s) → (σ.set i none)[j]? = σ[j]? := fun {j s} e => List.getElem?_set_ne (Ne.symm (ne e).1)
  refine ⟨I.ext, by rw [List.length_set, List.length_set, I.len], fun j s e => ?_, fun j s p e o es => ?_, fun j k sj sk p ej oj ek ok e1 e2 => ?_, fun j xs e => ?_⟩
  · rw [at_ e]; exact I.sl j s (ne e).2
  · rw [at_ e] at es; exact I.new j s p (ne e).2 o es
  · rw [at_ ej] at e1; rw [at_ ek] at e2; exact I.sep j k sj sk p (ne ej).2 oj (ne ek).2 ok e1 e2
  · rw [at_ e]; exact I.pin j xs (ne e).2
/-- the error's name is set -/
theorem EnvOk.held {K : Kx} {B : Bs} {H0 Hf H : Hp} {σ : L2.St} {ρ : En} {i : Nat} {v : V} {n : Nat} {as : List D} (I : EnvOk K B H0 Hf H σ ρ) (q : RepR K Hf H v (.exn n as)) : EnvOk K B H0 Hf H (σ.set i (some v)) (ρ.set i (some (.exn n as))) := by
  refine ⟨I.ext, by rw [List.length_set, List.length_set, I.len], fun j s e => ?_, fun j s p e o es => ?_, fun j k sj sk p ej oj ek ok e1 e2 => ?_, fun j xs e => ?_⟩
  · rcases set_get e with ⟨rfl, e, hl⟩ | ⟨hj, e⟩
    · cases e
      exact ⟨v, List.getElem?_set_self (by rw [I.len]; exact hl), q⟩
    · rw [List.getElem?_set_ne (Ne.symm hj)]; exact I.sl j s e
  · rcases set_get e with ⟨rfl, e, hl⟩ | ⟨hj, e⟩
    · cases e; cases o
    · rw [List.getElem?_set_ne (Ne.symm hj)] at es; exact I.new j s p e o es
  · rcases set_get ej with ⟨rfl, ej, hl⟩ | ⟨hj, ej⟩
    · cases ej; cases oj
    · rcases set_get ek with ⟨rfl, ek, hl⟩ | ⟨hk, ek⟩
      · cases ek; cases ok
      · rw [List.getElem?_set_ne (Ne.symm hj)] at e1
        rw [List.getElem?_set_ne (Ne.symm hk)] at e2
        exact I.sep j k sj sk p ej oj ek ok e1 e2
  · rcases set_get e with ⟨rfl, e, hl⟩ | ⟨hj, e⟩
    · cases e
    · rw [List.getElem?_set_ne (Ne.symm hj)]; exact I.pin j xs e
abbrev exiOf (c : Ct) (n : Nat) (a : Addr) (od : Option Addr) : Ct := ⟨⟨c.K.k, ⟨n, a, od.map fun d => (d, (c.cm n).2)⟩, c.K.w⟩, c.cm, c.E⟩
theorem sem_tryAs {i : Nat} {hit : Nat → Bool} {tb : WX → TS} {tb0 : XK → TS} {ts : Addr → Value → Option Addr → TS} {b h : En → R Fl} {cl : Value} {Wout : WX}
    (hw : ∀ (W : WX) (D : Ends) (σ : L2.St) (H : Hp), tb0 (fun cls d H => W cls d σ H) D σ H → tb W D σ H)
    (hb : ∀ E' : XK, SemS ⟨c.K, c.cm, E'⟩ (tb0 E') b) (ht : ∀ n, hit n = true → PySem.W.exmOne c.K (.ref (c.cm n).1) cl = some true)
    (hh : ∀ n a od, hit n = true → ((c.cm n).2 = [] → od = none) → SemS (exiOf c n a od) (ts a (.ref (c.cm n).1) od) h) :
    SemS c (tTryAs c.K cl i tb ts Wout) (tryAs i hit b h) := by
  intro B H0 Hf H σ ρ Dn I o
  refine hw _ _ _ _ ?_
  refine hb _ ⟨Hf, fun _ => .non⟩ H Hf H σ (bareE ρ) Dn (I.bareE rfl) ?_
  unfold tryAs at o
  cases e : b (bareE ρ) with
  | bad => rw [e] at o; exact o.elim
  | ok fl => rw [e] at o; exact GS.fenced (c := c) rfl rfl I.ext o
  | ex n as =>
    rw [e] at o
    intro Hf2 H2 od x2 r2
    have hn : hit n = true := by
      cases z : hit n with
      | true => rfl
      | false => simp only [z] at o; exact o.elim
    simp only [hn, if_true] at o
    refine ⟨true, ht n hn, fun _ a ha => ?_, fun z => nomatch z⟩
    have hod : (c.cm n).2 = [] → od = none := fun z => by
      cases od with
      | none => rfl
      | some d => exact absurd z r2.1
    have has : ExFs (exiOf c n a od).K Hf2 H2 as := by
      cases od with
      | none => exact r2.1
      | some d => exact r2.2
    have J : EnvOk (exiOf c n a od).K ⟨Hf2, fun _ => .non⟩ H2 Hf2 H2 (σ.set i (some (.ref a))) ((bareE ρ).set i (some (.exn n as))) := by
      have J0 : EnvOk (exiOf c n a od).K ⟨Hf2, fun _ => .non⟩ H2 Hf2 H2 σ (bareE ρ) := by
        exact EnvOk.bareE (K := c.K) (K' := (exiOf c n a od).K) rfl (I.grow x2)
      exact J0.held ⟨rfl, rfl, has⟩
    have xx : Ext B.h H0 Hf2 H2 := I.ext.trans x2
    refine hh n a od hn hod ⟨Hf2, fun _ => .non⟩ H2 Hf2 H2 _ _ _ J ?_
    have o2 := (Out.bind (G1 := fun fl => Out c B.h H0 (outF i fl) (GS c B H0 Dn)) o fun fl _ o1 => o1)
    refine Out.mono (c := exiOf c n a od) (G := fun fl => Out c B.h H0 (outF i fl) (GS c B H0 Dn)) ?_ fun fl _ o1 => ?_
    · cases eh : h ((bareE ρ).set i (some (.exn n as))) with
      | ok fl => rw [eh] at o2; exact o2
      | bad => rw [eh] at o2; exact o2
      | ex m bs =>
        rw [eh] at o2
        exact fun Hf' H' od' y r => (show ExW c B.h H0 m bs from o2) Hf' H' od' (xx.trans y) r
    · cases fl with
      | nx ρ' =>
        intro Hf3 H3 σ3 I3
        exact GS.fenced (c := c) (c' := exiOf c n a od) rfl rfl xx (fl := .nx (ρ'.set i none)) o1 Hf3 H3 (σ3.set i none) (I3.goes i)
      | rt r =>
        have z : GS (exiOf c n a od) ⟨Hf2, fun _ => .non⟩ H2 Dn (.rt r) := GS.fenced (c := c) (c' := exiOf c n a od) rfl rfl xx (fl := .rt r) o1
        exact z
      | bk ρ' => exact o1.elim
      | ct ρ' => exact o1.elim
theorem sem_tryOn {hit : Nat → Bool} {tb : WX → TS} {tb0 : XK → TS} {ts : Addr → Value → Option Addr → TS} {b h : En → R Fl} {cl : Value} {Wout : WX}
    (hw : ∀ (W : WX) (D : Ends) (σ : L2.St) (H : Hp), tb0 (fun cls d H => W cls d σ H) D σ H → tb W D σ H)
    (hb : ∀ E' : XK, SemS ⟨c.K, c.cm, E'⟩ (tb0 E') b) (ht : ∀ n, hit n = true → PySem.W.exmOne c.K (.ref (c.cm n).1) cl = some true)
    (hh : ∀ a cls od, SemS c (ts a cls od) h) :
    SemS c (tTryOn c.K cl tb ts Wout) (tryOn hit b h) := by
  intro B H0 Hf H σ ρ Dn I o
  refine hw _ _ _ _ ?_
  refine hb _ ⟨Hf, fun _ => .non⟩ H Hf H σ (bareE ρ) Dn (I.bareE rfl) ?_
  unfold tryOn at o
  cases e : b (bareE ρ) with
  | bad => rw [e] at o; exact o.elim
  | ok fl => rw [e] at o; exact GS.fenced (c := c) rfl rfl I.ext o
  | ex n as =>
    rw [e] at o
    intro Hf2 H2 od x2 r2
    have hn : hit n = true := by
      cases z : hit n with
      | true => rfl
      | false => simp only [z] at o; exact o.elim
    simp only [hn, if_true] at o
    refine ⟨true, ht n hn, fun _ a ha => ?_, fun z => nomatch z⟩
    have xx : Ext B.h H0 Hf2 H2 := I.ext.trans x2
    refine hh a _ od ⟨Hf2, fun _ => .non⟩ H2 Hf2 H2 _ _ _ ((I.grow x2).bareE rfl) ?_
    have o2 := (Out.bind (G1 := fun fl => Out c B.h H0 (fenceF fl) (GS c B H0 Dn)) o fun fl _ o1 => o1)
    cases eh : h (bareE ρ) with
    | ok fl => rw [eh] at o2; exact GS.fenced (c := c) (c' := c) rfl rfl xx o2
    | bad => rw [eh] at o2; exact o2
    | ex m bs =>
      rw [eh] at o2
      exact fun Hf' H' od' y r => (show ExW c B.h H0 m bs from o2) Hf' H' od' (xx.trans y) r
/-! ### isinstance of the held error -/
def isE (i : Nat) (f : Nat → Bool) : En → R SV := fun ρ => match ρ[i]? with
  | some (some (.exn n _)) => .ok (.d (.bool (f n)))
  | _ => .bad
theorem sem_isE {i n : Nat} {a : Addr} {od : Option Addr} {C : Addr} {f : Nat → Bool} {bl : Bool} (hod : od = none) (hx : ExcC c.K.k (c.cm n).1) (hk : PySem.W.kitOne c.K.k (.ref (c.cm n).1) (.ref C) = some (f n)) :
    SemE (exiOf c n a od) bl (tIsE c.K.k i C a (.ref (c.cm n).1) od) (isE i f) := by
  intro B H0 Hf H σ ρ Q I o
  unfold isE at o
  split at o
  rotate_left
  · exact o.elim
  rename_i m as e
  obtain ⟨v, h1, h2, h3, _⟩ := I.sl i _ e
  have h2' : m = n := h2
  subst h2'
  refine ⟨v, h1, (c.cm m).1, .ref C, .ref C, f m, rfl, hod, hx, by rw [h3], fun u r => ?_, hk, ?_⟩
  · cases r; rfl
  · exact GE.now o I.i (.bl _)
end
end Pl
namespace Pl
open PySem PySem.Spec PyProof.Rows L2
section
variable {X : Cx} {x n : Str} {c : Value} {i : Nat} {body suite : List Stmt} {b₀ : Stmt} {np pos pos' : Pos} {tb : WX → TS} {ts : Addr → Value → Option Addr → TS} {Wout : WX}
theorem ps_tryAs (hs : X.stack = X.env :: X.outer) (hf : X.env.frame = some X.env.locals) (hN : X.N.Nodup) (hi : X.N[i]? = some n) (hln : X.env.kindOf n = some .local) (hc : Names X x c) (tk : Takes X Wout)
    (hb : ∀ (W : WX) (pn : List (Addr × Obj)) (xe : Value → Shared → Prop), Takes (X.tr pn xe) W → PassesOwn (model X.prog X.w) X.A X.env xe → PSs (X.tr pn xe) body (tb W))
    (hsu : ∀ (a : Addr) (oe : Obj) (cls : Value) (d : Option Addr) (pn : List (Addr × Obj)), Zc cls d oe → (∃ vs, oe.data = .fields vs) → PSs (X.suite a ((a, oe) :: pn)) (b₀ :: suite) (ts a cls d)) :
    PS X (.Try body [.ExceptHandler (some (.Name x np)) (some n) (b₀ :: suite) pos'] [] [] pos) (tTryAs X.K c i tb ts Wout) := ps_try_as hs hf hN hi hln hc tk hb hsu
theorem ps_tryOn (hs : X.stack = X.env :: X.outer) (hf : X.env.frame = some X.env.locals) (hc : Names X x c) (tk : Takes X Wout)
    (hb : ∀ (W : WX) (pn : List (Addr × Obj)) (xe : Value → Shared → Prop), Takes (X.tr pn xe) W → PassesOwn (model X.prog X.w) X.A X.env xe → PSs (X.tr pn xe) body (tb W))
    (hsu : ∀ (a : Addr) (oe : Obj) (cls : Value) (d : Option Addr) (pn : List (Addr × Obj)), Zc cls d oe → (∃ vs, oe.data = .fields vs) → PSs (X.suite a ((a, oe) :: pn)) (b₀ :: suite) (ts a cls d)) :
    PS X (.Try body [.ExceptHandler (some (.Name x np)) none (b₀ :: suite) pos'] [] [] pos) (tTryOn X.K c tb ts Wout) := ps_try_only hs hf hc tk hb hsu
end
section
variable {P : Program} {w : World} {K : PySem.W.Frag} {mg : Str → Option Value} {base : Heap} {N : List Str} {qual : Str} {sc : Scope} {f : Addr} {cdv : Value} {A : Around} {outer : List Env} {s : Shared} {H : Hp} {E : XK} {C : Addr} {x : Str} {p pos pos2 : Pos}
/-- raise C() in a def that lets it out -/
theorem ps_raise0 (z : Xc K mg x C) (hg : Gl (cxOf (L2.CX P w) P w K mg base N qual sc f cdv A outer s H E) x) (hdb : (x == ("__debug__" : Str)) = false := by decide) :
    PS (cxOf (L2.CX P w) P w K mg base N qual sc f cdv A outer s H E) (.Raise (some (.Call (.Name x p) [] [] pos)) none pos2) (tRaise C E) :=
  ps_raise rfl (takes_of rfl rfl rfl rfl) (pmk_own0 PySem.F.excBase_ValueError z.e z.g z.k (raises_own z.b z.t) hg hdb)
theorem ps_raise1 {m : Str} {j : Nat} {p2 : Pos} (z : Xc K mg x C) (hg : Gl (cxOf (L2.CX P w) P w K mg base N qual sc f cdv A outer s H E) x) (hdb : (x == ("__debug__" : Str)) = false := by decide) :
    PS (cxOf (L2.CX P w) P w K mg base N qual sc f cdv A outer s H E) (.Raise (some (.Call (.Name x p) [.Constant (.str m) j p2] [] pos)) none pos2) (tRaise C E) :=
  ps_raise rfl (takes_of rfl rfl rfl rfl) (pmk_own PySem.F.excBase_ValueError z.e z.g z.k (raises_own z.b z.t) hg hdb)
end
section
variable {c : Ct}
theorem sem_raise' {n : Nat} {C : Addr} (hC : c.cm n = (C, [])) : SemS c (tRaise C c.E) (raiseS n) := sem_raise hC
theorem sem_callE {n : Nat} {g : List D → R SV} {t : TA} {f : En → R (List D)} (h : SemA c t f) : SemE c true (tCallE (spF c.K.w c.K c.cm n g) c.E t) (callF n g f) := by
  intro B H0 Hf H σ ρ Q I o
  refine h B H0 Hf H σ ρ _ I (Out.bind o fun ds eds o1 => fun vs Hf1 H1 x1 q1 => ?_)
  split at o1
  · rename_i hl
    exact ⟨by rw [dpAll_len q1]; exact hl, c.K.x, Hf1, ds, x1.i, q1, o1.grow x1 fun _ g => g.grow x1⟩
  · exact o1.elim
theorem pe_isE {X : Cx} {a : Addr} {cls : Value} {d : Option Addr} {oe : Obj} {pn : List (Addr × Obj)} {i : Nat} {x : Str} {C : Addr} {p p1 p2 p3 : Pos} {y : Str} (hz : Zc cls d oe) (hf : ∃ vs, oe.data = .fields vs) (hg : Gl X "isinstance") (hm : X.mg "isinstance" = none)
    (hv : bootBuiltins "isinstance" = some (.builtin "isinstance")) (ha : PA (X.suite a ((a, oe) :: pn)) [.Name y p3, .Name x p1] (tCons (tVar i) (tCons (tC (.ref C)) tNil))) : PE (X.suite a ((a, oe) :: pn)) (.Call (.Name "isinstance" p) [.Name y p3, .Name x p1] [] p2) (tIsE X.K i C a cls d) :=
  pe_callB (X := X.suite a ((a, oe) :: pn)) (call_isX hz hf) hg hm hv ha
/-- what the law's def promises -/
def spL (K : PySem.W.Frag) (n : Nat) (g : List D → R SV) : Sp := fun vs H Q E => vs.length = n ∧ ∃ (Hf : Hp) (ds : List D), Same Hf H ∧ DpAll K Hf vs ds ∧ g ds = .ok (.d (.bool true)) ∧ ∀ H', Q (.bl true) H'
theorem spL_ok {P : Program} {w : World} {K : PySem.W.Frag} {mg : Str → Option Value} {base : Heap} {CX : CXT} {cm : Nat → Addr × List Str} {k n : Nat} {f : Addr} {fd : FuncData} {ps : List Str} {g : List D → R SV} (F : FnOk P w K mg base CX k f fd ps (spF w K cm n g)) : FnOk P w K mg base CX k f fd ps (spL K n g) :=
  F.imp fun vs H Q E ⟨hl, Hf, ds, i, q, e, hq⟩ => ⟨hl, ⟨0, 0, none⟩, Hf, ds, i, q, by
    rw [e]
    intro v Hf' H' x r _
    cases r
    exact hq H'⟩
theorem law_spL {K : PySem.W.Frag} {g : List D → R SV} {H : Hp} {a : Addr} {ns : List Int} {E : XK} (hS : SqL K H a (ns.map V.int)) (h : g [.list (ns.map PyData.int)] = .ok (.d (.bool true))) :
    spL K 1 g [.ref a] H (fun v _ => v = .bl true) E := ⟨rfl, H, [.list (ns.map PyData.int)], .refl _, .cons (.lst hS (dpAll_ints ns)) .nil, h, fun _ => rfl⟩
end
end Pl
namespace Pl
open PySem PySem.Spec PyProof.Rows L2
/-! ### max of three -/
abbrev rMax3 : List V → Hp → VK → Prop := rNuC3 nuMax3
theorem cb_max3 {X : Cx} (hc : X.calm = true) : CallR X (.builtin "max") rMax3 := call_max3Nu hc
def max3S : List SV → R SV
  | [.d (.int a), .d (.int b), .d (.int e)] => .ok (.d (.int (if (if a < b then b else a) < e then e else (if a < b then b else a))))
  | _ => .bad
theorem c1_max3 {c : Ct} : C1ok c rMax3 max3S := by
  intro Hf H vs rs Q i h o
  unfold max3S at o
  split at o
  · rename_i a b e
    cases h with
    | cons h1 h =>
      cases h with
      | cons h2 h =>
        cases h with
        | cons h3 h =>
          cases h; cases h1; cases h2; cases h3
          refine ⟨.int a, .int b, .int e, .int (if (if a < b then b else a) < e then e else (if a < b then b else a)), rfl, ?_, GE.now o i (.int _)⟩
          have m : ∀ x y : Int, nuMax2 (.int x) (.int y) = some (.int (if x < y then y else x)) := fun x y => by
            show some (if decide (x < y) = true then V.int y else V.int x) = _
            by_cases z : x < y <;> simp [z]
          unfold nuMax3
          rw [m, Option.bind_some, m]
  · exact o.elim
end Pl
/-! PlC: dicts of this frame, with str or int keys. -/
namespace Pl
open PySem PySem.Spec PyProof.Rows L2
def valD {κ : Type} [DecidableEq κ] (kvs : List (κ × D)) (k : κ) : Option D := (kvs.find? fun kv => decide (kv.1 = k)).map (·.2)
def putD {κ : Type} [DecidableEq κ] (kvs : List (κ × D)) (k : κ) (v : D) : List (κ × D) :=
  if (kvs.any fun kv => decide (kv.1 = k)) = true then kvs.map (fun kv => if kv.1 = k then (kv.1, v) else kv) else kvs ++ [(k, v)]
section
variable {K : PySem.W.Frag} {Hf : Hp}
theorem dkv_mono {Hf' : Hp} (e : Same Hf Hf') {ws : List (Key × V)} {ks : List (Key × D)} (h : DpKV K Hf ws ks) : DpKV K Hf' ws ks := Paired.mapP h fun _ _ q => ⟨q.1, dp_mono e q.2⟩
theorem dkv_len {ws : List (Key × V)} {ks : List (Key × D)} (h : DpKV K Hf ws ks) : ws.length = ks.length := Paired.length h
theorem dkv_any (k : Key) : ∀ {ws : List (Key × V)} {ks : List (Key × D)}, DpKV K Hf ws ks → (ws.any fun kv => decide (kv.1 = k)) = (ks.any fun kv => decide (kv.1 = k))
  | _, _, .nil => rfl
  | _, _, .cons q r => by rw [List.any_cons, List.any_cons, q.1, dkv_any k r]
theorem dkv_get (k : Key) : ∀ {ws : List (Key × V)} {ks : List (Key × D)}, DpKV K Hf ws ks → (valD ks k = none ∧ valV ws k = none) ∨ ∃ d v, valD ks k = some d ∧ valV ws k = some v ∧ Dp K Hf v d
  | _, _, .nil => .inl ⟨rfl, rfl⟩
  | _, _, .cons (a := a) (b := b) (l₁ := l₁) (l₂ := l₂) q r => by
    have ih := dkv_get k r
    unfold valD valV at ih ⊢
    rw [List.find?_cons, List.find?_cons, q.1]
    by_cases c : b.1 = k
    · exact .inr ⟨b.2, a.2, by simp [c], by simp [c], q.2⟩
    · simp only [c, decide_false]
      exact ih
theorem dkv_map {k : Key} {v : V} {d : D} (hv : Dp K Hf v d) : ∀ {ws : List (Key × V)} {ks : List (Key × D)}, DpKV K Hf ws ks → DpKV K Hf (ws.map fun kv => if kv.1 = k then (kv.1, v) else kv) (ks.map fun kv => if kv.1 = k then (kv.1, d) else kv)
  | _, _, .nil => .nil
  | _, _, .cons (a := a) (b := b) q r => by
    refine .cons ?_ (dkv_map hv r)
    show (if a.1 = k then (a.1, v) else a).1 = (if b.1 = k then (b.1, d) else b).1 ∧ Dp K Hf (if a.1 = k then (a.1, v) else a).2 (if b.1 = k then (b.1, d) else b).2
    rw [q.1]
    split
    · exact ⟨rfl, hv⟩
    · exact q
theorem dkv_put {k : Key} {v : V} {d : D} {ws : List (Key × V)} {ks : List (Key × D)} (hv : Dp K Hf v d) (h : DpKV K Hf ws ks) : DpKV K Hf (putK ws k v) (putD ks k d) := by
  unfold putK putD
  rw [dkv_any k h]
  split
  · exact dkv_map hv h
  · exact Paired.snoc h ⟨rfl, hv⟩
end
/-! ### a dict of this frame is changed -/
theorem ExFs.updD {K : Kx} {Hf H : Hp} {as : List D} {p : Addr} {xs ys : List (Key × V)} (hp : H p = some (.dK xs)) (h : ExFs K Hf H as) : ExFs K Hf (L2.upd H p (.dK ys)) as := by
  unfold ExFs at h ⊢
  split at h
  · exact h
  · obtain ⟨vs, h1, h2, h3⟩ := h
    exact ⟨vs, by rw [upd_ne (fun z => by subst z; rw [hp] at h1; cases h1)]; exact h1, h2, h3⟩
/-- the slot's object is written anew -/
theorem EnvOk.rewriteO {K : Kx} {B : Bs} {H0 Hf H : Hp} {σ : L2.St} {ρ : En} {i : Nat} {xs xs' : List (Key × D)} {vs vs' : List (Key × V)} {p : Addr} (I : EnvOk K B H0 Hf H σ ρ) (e : ρ[i]? = some (some (.od xs))) (h1 : σ[i]? = some (some (.ref p))) (h2 : H p = some (.dK vs)) (h3 : Hf p = none) (h4 : DpKV K Hf vs' xs') :
    EnvOk K B H0 Hf (upd H p (.dK vs')) σ (ρ.set i (some (.od xs'))) := by
  have hn := I.new i _ p e rfl h1
  refine ⟨⟨I.ext.f, fun b o eb => ?_, fun b o eb => ?_, I.ext.n⟩, by rw [List.length_set]; exact I.len, fun j s ej => ?_, fun j s q ej oj es => ?_, fun j k sj sk q ej oj ek ok e1 e2 => ?_, fun j ys ej => ?_⟩
  · rw [upd_ne (ne_of_none eb hn)]; exact I.ext.h _ _ eb
  · rw [upd_ne (ne_of_none eb h3)]; exact I.i _ _ eb
  · rcases set_get ej with ⟨rfl, ej, _⟩ | ⟨hj, ej⟩
    · cases ej
      exact ⟨_, h1, p, _, rfl, upd_same, h3, h4⟩
    · obtain ⟨w, w1, w2⟩ := I.sl j s ej
      refine ⟨w, w1, ?_⟩
      cases s with
      | d x => exact w2
      | ol ys =>
        obtain ⟨q, us, rfl, u1, u2⟩ := w2
        have hq : q ≠ p := fun z => hj (I.sep j i _ _ p ej rfl e rfl (z ▸ w1) h1)
        exact ⟨q, us, rfl, by rw [upd_ne hq]; exact u1, u2⟩
      | od ys =>
        obtain ⟨q, us, rfl, u1, u2⟩ := w2
        have hq : q ≠ p := fun z => hj (I.sep j i _ _ p ej rfl e rfl (z ▸ w1) h1)
        exact ⟨q, us, rfl, by rw [upd_ne hq]; exact u1, u2⟩
      | pin ys =>
        obtain ⟨q, us, rfl, u1, u2⟩ := w2
        have hq : q ≠ p := I.pin_ne ej w1 hn
        exact ⟨q, us, rfl, by rw [upd_ne hq]; exact u1, u2⟩
      | exn n as => exact ⟨w2.1, w2.2.1, w2.2.2.updD h2⟩
      | pd ys => exact w2
      | kd ys =>
        obtain ⟨q, ep, us, rfl, u1, u2⟩ := w2
        have hq : q ≠ p := fun z => hj (I.sep j i _ _ p ej rfl e rfl (z ▸ w1) h1)
        exact ⟨q, ep, us, rfl, by rw [upd_ne hq]; exact u1, u2⟩
      | sk ys => exact w2
      | sd ys => exact w2
      | so C fs => exact w2
      | oi C fs =>
        obtain ⟨q, dx, us, rfl, u1, u2⟩ := w2
        have hq : q ≠ p := fun z => hj (I.sep j i _ _ p ej rfl e rfl (z ▸ w1) h1)
        exact ⟨q, dx, us, rfl, by rw [upd_ne hq]; exact u1, u2⟩
  · rcases set_get ej with ⟨rfl, ej, _⟩ | ⟨_, ej⟩
    · rw [h1] at es; cases es; exact hn
    · exact I.new j s q ej oj es
  · have old : ∀ {j : Nat} {s : SV}, (ρ.set i (some (.od xs')))[j]? = some (some s) → s.own = true → ∃ s', ρ[j]? = some (some s') ∧ s'.own = true := by
      intro j s ej oj
      rcases set_get ej with ⟨rfl, _, _⟩ | ⟨_, ej⟩
      · exact ⟨_, e, rfl⟩
      · exact ⟨s, ej, oj⟩
    obtain ⟨sj', a1, a2⟩ := old ej oj
    obtain ⟨sk', b1, b2⟩ := old ek ok
    exact I.sep j k sj' sk' q a1 a2 b1 b2 e1 e2
  · rcases set_get ej with ⟨_, ej, _⟩ | ⟨_, ej⟩
    · cases ej
    · exact I.pin j ys ej
def key1 : SV → R Key
  | .d (.str s) => .ok (.inr s)
  | .d (.int i) => .ok (.inl i)
  | _ => .bad
theorem key1_ok {K : Kx} {Hf H : Hp} {v : V} {r : SV} {k : Key} (q : RepR K Hf H v r) (e : key1 r = .ok k) : v = kV k := by
  unfold key1 at e
  split at e
  · cases e; cases q; rfl
  · cases e; cases q; rfl
  · cases e
theorem u1 {k : Nat} {A : Around} (r : Room k A) : A.units + 1 < cLine := by have := r.un; omega
section
variable {c : Ct}
def dnewS : En → R SV := fun _ => .ok (.od [])
theorem sem_dnew : SemE c true tDNewK dnewS := by
  intro B H0 Hf H σ ρ Q I o
  exact fun p hp => (show GE c true Hf H Q (.od []) from o) _ Hf _ (.fresh I.i hp) ⟨p, [], rfl, upd_same, I.i.free hp, .nil⟩ fun _ _ p' e => by cases e; exact hp
def putS (i : Nat) (fk f : En → R SV) : En → R Fl := fun ρ => f ρ >>= fun r => datS r >>= fun d => match ρ[i]? with
  | some (some (.od kvs)) => fk ρ >>= fun kk => match key1 kk with
    | .ok k => if kvs.length < sizeLine then .ok (.nx (ρ.set i (some (.od (putD kvs k d))))) else .bad
    | _ => .bad
  | _ => .bad
theorem sem_put {i : Nat} {t tk : TE} {f fk : En → R SV} (h : SemE c true t f) (hk : SemE c false tk fk) : SemS c (sDPut (tVar i) tk t) (putS i fk f) := by
  intro B H0 Hf H σ ρ Dn I o
  refine h B H0 Hf H σ ρ _ I ((Out.bind o fun a ea o1 => ?_ : Out c B H0 (f ρ) (GE c true Hf H _)).here I.ext)
  intro u Hf1 H1 x1 q1 fr
  obtain ⟨d, ed, o2⟩ := out_dat o1
  obtain ⟨Hf2, x2, q2⟩ := froze x1 q1 (fr rfl) ed
  split at o2
  rotate_left
  · exact o2.elim
  rename_i kvs e
  have I2 := I.grow x2
  obtain ⟨v, h1, p, vs, rfl, h2, h3, h4⟩ := I2.sl i _ e
  refine ⟨.ref p, h1, ?_⟩
  refine hk B H0 Hf2 H1 σ ρ _ I2 ((Out.bind o2 fun kk ek o3 => ?_ : Out c B H0 (fk ρ) (GE c false Hf2 H1 _)).here I2.ext)
  intro w Hf3 H3 x3 q3 _
  split at o3
  rotate_left
  · exact o3.elim
  rename_i k ek
  have hw := key1_ok q3 ek
  subst hw
  split at o3
  rotate_left
  · exact o3.elim
  rename_i hl
  have I3 := I2.grow x3
  have h2' := x3.h _ _ h2
  have h3' := x3.still h2 h3
  have h4' := dkv_mono x3.f h4
  exact ⟨p, _, rfl, .inl ⟨vs, k, h2', rfl, by rw [dkv_len h4]; exact hl, rfl⟩, (show GS c B H0 Dn (.nx _) from o3) _ _ _ (I3.rewriteO e h1 h2' h3' (dkv_put (dp_mono x3.f q2) h4'))⟩
def dictOf : SV → Option (List (Key × D))
  | .od kvs => some kvs
  | .pd kvs => some kvs
  | .sd kvs => some kvs
  | _ => none
theorem dictOf_ok {Hf H : Hp} {v : V} {r : SV} {kvs : List (Key × D)} (i : Same Hf H) (q : RepR c.K Hf H v r) (e : dictOf r = some kvs) : ∃ p ws, v = .ref p ∧ Rd H p (.dK ws) ∧ DpKV c.K Hf ws kvs := by
  cases r with
  | od ks => cases e; obtain ⟨p, ws, h, h1, h2, h3⟩ := q; exact ⟨p, ws, h, .inl h1, h3⟩
  | kd x => cases e
  | sk x => cases e
  | sd ks => cases e; obtain ⟨p, ws, h, h1, h3⟩ := q; exact ⟨p, ws, h, .inl (i _ _ h1), h3⟩
  | so C x => cases e
  | oi C x => cases e
  | pd ks => cases e; obtain ⟨p, ws, o, h, h1, h3⟩ := q; exact ⟨p, ws, h, .inr ⟨o, i _ _ h1⟩, h3⟩
  | d x => cases e
  | ol x => cases e
  | pin x => cases e
  | exn n as => cases e
theorem rd_mono {H H' : Hp} {p : Addr} {u : HO} (e : Same H H') (h : Rd H p u) : Rd H' p u := by
  rcases h with h | ⟨o, h⟩
  · exact .inl (e _ _ h)
  · exact .inr ⟨o, e _ _ h⟩
def dgetS (i : Nat) (fk : En → R SV) : En → R SV := fun ρ => match ρ[i]? with
  | some (some r) => (match dictOf r with
    | some kvs => fk ρ >>= fun kk => match key1 kk with
      | .ok k => (match valD kvs k with
        | some d => .ok (.d d)
        | none => .bad)
      | _ => .bad
    | none => .bad)
  | _ => .bad
theorem sem_dget {i : Nat} {tk : TE} {fk : En → R SV} (hk : SemE c false tk fk) : SemE c true (tDGet (tVar i) tk) (dgetS i fk) := by
  intro B H0 Hf H σ ρ Q I o
  unfold dgetS at o
  split at o
  rotate_left
  · exact o.elim
  rename_i r e
  split at o
  rotate_left
  · exact o.elim
  rename_i kvs er
  obtain ⟨v, h1, q⟩ := I.sl i _ e
  obtain ⟨p, ws, rfl, h2, h3⟩ := dictOf_ok (c := c) I.i q er
  refine ⟨.ref p, h1, ?_⟩
  refine hk B H0 Hf H σ ρ _ I (Out.bind o fun kk ek o1 => ?_)
  intro w Hf1 H1 x1 q1 _
  split at o1
  rotate_left
  · exact o1.elim
  rename_i k ek'
  have hw := key1_ok q1 ek'
  subst hw
  split at o1
  rotate_left
  · exact o1.elim
  rename_i d ed
  rcases dkv_get k h3 with ⟨a1, a2⟩ | ⟨d', v', a1, a2, a3⟩
  · rw [a1] at ed; cases ed
  · rw [a1] at ed; cases ed
    exact ⟨p, v', rfl, .inl ⟨ws, k, rd_mono x1.h h2, rfl, a2.symm⟩, GE.now (GE.grow (show GE c true Hf H Q _ from o1) x1) x1.i (dp_mono x1.f a3)⟩
def dget2S (i : Nat) (fk fx : En → R SV) : En → R SV := fun ρ => match ρ[i]? with
  | some (some r) => (match dictOf r with
    | some kvs => fk ρ >>= fun kk => match key1 kk with
      | .ok k => fx ρ >>= fun x => (match x with
        | .d x => .ok (.d ((valD kvs k).getD x))
        | _ => .bad)
      | _ => .bad
    | none => .bad)
  | _ => .bad
theorem sem_dget2 {i : Nat} {tk tx : TE} {fk fx : En → R SV} (hk : SemE c false tk fk) (hx : SemE c false tx fx) : SemE c true (tDGet2 (tVar i) tk tx) (dget2S i fk fx) := by
  intro B H0 Hf H σ ρ Q I o
  unfold dget2S at o
  split at o
  rotate_left
  · exact o.elim
  rename_i r e
  split at o
  rotate_left
  · exact o.elim
  rename_i kvs er
  obtain ⟨v, h1, q⟩ := I.sl i _ e
  obtain ⟨p, ws, rfl, h2, h3⟩ := dictOf_ok (c := c) I.i q er
  refine ⟨.ref p, h1, p, rfl, .inl ⟨ws, h2⟩, ?_⟩
  refine hk B H0 Hf H σ ρ _ I (Out.bind o fun kk ek o1 => ?_)
  intro w Hf1 H1 x1 q1 _
  split at o1
  rotate_left
  · exact o1.elim
  rename_i k ek'
  have hw := key1_ok q1 ek'
  subst hw
  refine hx B H0 Hf1 H1 σ ρ _ (I.grow x1) (Out.bind (o1.grow x1 fun _ g => g) fun xx ex o2 => ?_)
  intro z Hf2 H2 x2 q2 _
  split at o2
  rotate_left
  · exact o2.elim
  rename_i xd _
  have h3' := dkv_mono (x1.f.trans x2.f) h3
  have h2' := rd_mono (x1.h.trans x2.h) h2
  have g : GE c true Hf2 H2 Q (.d ((valD kvs k).getD xd)) := GE.grow (GE.grow (show GE c true Hf H Q _ from o2) x1) x2
  rcases dkv_get k h3' with ⟨a1, a2⟩ | ⟨d', v', a1, a2, a3⟩
  · refine ⟨none, .inl ⟨ws, k, h2', rfl, a2.symm⟩, ?_⟩
    rw [a1] at g
    exact GE.now g x2.i q2
  · refine ⟨some v', .inl ⟨ws, k, h2', rfl, a2.symm⟩, ?_⟩
    rw [a1] at g
    exact GE.now g x2.i a3
def inDS (neg : Bool) (i : Nat) (fk : En → R SV) : En → R SV := fun ρ => fk ρ >>= fun kk => match key1 kk with
  | .ok k => (match ρ[i]? with
    | some (some r) => (match dictOf r with
      | some kvs => .ok (.d (.bool (if neg then !(valD kvs k).isSome else (valD kvs k).isSome)))
      | none => .bad)
    | _ => .bad)
  | _ => .bad
theorem sem_inD_core {i : Nat} {neg : Bool} {tk : TE} {fk : En → R SV} (hk : SemE c false tk fk) {B : Bs} {H0 Hf H : Hp} {σ : L2.St} {ρ : En} {Q : VK} (I : EnvOk c.K B H0 Hf H σ ρ) (o : Out c Hf H (inDS neg i fk ρ) (GE c true Hf H Q)) :
    tk σ H fun y H1 => tVar i σ H1 fun x H2 => ∃ a ov, x = .ref a ∧ DGet H2 a y ov ∧ Q (.bl (if neg then !ov.isSome else ov.isSome)) H2 := by
  unfold inDS at o
  refine hk B H0 Hf H σ ρ _ I (Out.bind o fun kk ek o1 => ?_)
  intro w Hf1 H1 x1 q1 _
  split at o1
  rotate_left
  · exact o1.elim
  rename_i k ek'
  have hw := key1_ok q1 ek'
  subst hw
  split at o1
  rotate_left
  · exact o1.elim
  rename_i r e
  split at o1
  rotate_left
  · exact o1.elim
  rename_i kvs er
  obtain ⟨v, h1, q⟩ := (I.grow x1).sl i _ e
  obtain ⟨p, ws, rfl, h2, h3⟩ := dictOf_ok (c := c) x1.i q er
  refine ⟨.ref p, h1, p, valV ws k, rfl, .inl ⟨ws, k, h2, rfl, rfl⟩, ?_⟩
  have es : (valV ws k).isSome = (valD kvs k).isSome := by
    rcases dkv_get k h3 with ⟨a1, a2⟩ | ⟨d', v', a1, a2, _⟩
    · rw [a1, a2]; rfl
    · rw [a1, a2]; rfl
  rw [es]
  exact GE.now (GE.grow (show GE c true Hf H Q _ from o1) x1) x1.i (.bl _)
theorem sem_inD {i : Nat} {tk : TE} {fk : En → R SV} (hk : SemE c false tk fk) : SemE c true (tDIn tk (tVar i)) (inDS false i fk) := fun _ _ _ _ _ _ _ I o => sem_inD_core (neg := false) hk I o
theorem sem_notInD {i : Nat} {tk : TE} {fk : En → R SV} (hk : SemE c false tk fk) : SemE c true (tDNotIn tk (tVar i)) (inDS true i fk) := fun _ _ _ _ _ _ _ I o => sem_inD_core (neg := true) hk I o
/-! ### a comprehension over a dict of this frame -/
def less (d : Addr) (H : Hp) : Hp := fun b => if b = d then none else H b
theorem less_ne {d b : Addr} {H : Hp} (h : b ≠ d) : less d H b = H b := if_neg h
theorem rd_less {H : Hp} {d a : Addr} {o : Obj} {ks : List (Key × V)} {u : HO} (hd : H d = some (.frz o (.dK ks))) (hu : ∀ ks, u ≠ .dK ks) (hf : ∀ o' w, u ≠ .frz o' w) (h : Rd H a u) : Rd (less d H) a u := by
  rcases h with h | ⟨o', h⟩
  · have hne : a ≠ d := fun z => by rw [z, hd] at h; injection h with h; exact hf _ _ h.symm
    exact .inl (by rw [less_ne hne]; exact h)
  · have hne : a ≠ d := fun z => by rw [z, hd] at h; injection h with h; injection h with _ h; exact hu _ h.symm
    exact .inr ⟨o', by rw [less_ne hne]; exact h⟩
theorem sqL_less {K : PySem.W.Frag} {H : Hp} {d a : Addr} {o : Obj} {ks : List (Key × V)} {xs : List V} (hd : H d = some (.frz o (.dK ks))) (h : SqL K H a xs) : SqL K (less d H) a xs := by
  rcases h with h | h
  · exact .inl (rd_less hd (fun _ z => nomatch z) (fun _ _ z => nomatch z) h)
  · exact .inr h
theorem sqT_less {K : PySem.W.Frag} {H : Hp} {d a : Addr} {o : Obj} {ks : List (Key × V)} {xs : List V} (hd : H d = some (.frz o (.dK ks))) (h : SqT K H a xs) : SqT K (less d H) a xs := by
  rcases h with h | h
  · exact .inl (rd_less hd (fun _ z => nomatch z) (fun _ _ z => nomatch z) h)
  · exact .inr h
mutual
theorem dp_less {K : PySem.W.Frag} {H : Hp} {a : Addr} {o : Obj} {ks : List (Key × V)} (hd : H a = some (.frz o (.dK ks))) : ∀ {d : D} {v : V}, Dp K H v d → Dp K (less a H) v d
  | .none, _, h => by cases h; exact .non
  | .bool b, _, h => by cases h; exact .bl b
  | .int i, _, h => by cases h; exact .int i
  | .str x, _, h => by cases h; exact .str x
  | .list ds, _, h => by
    cases h with
    | lst h1 h2 => exact .lst (sqL_less hd h1) (dpAll_less hd h2)
  | .tuple ds, _, h => by
    cases h with
    | tup h1 h2 => exact .tup (sqT_less hd h1) (dpAll_less hd h2)
  | .dict _, _, h => by cases h
theorem dpAll_less {K : PySem.W.Frag} {H : Hp} {a : Addr} {o : Obj} {ks : List (Key × V)} (hd : H a = some (.frz o (.dK ks))) : ∀ {ds : List D} {vs : List V}, DpAll K H vs ds → DpAll K (less a H) vs ds
  | [], _, h => by cases h; exact .nil
  | d :: ds, _, h => by
    cases h with
    | cons h1 h2 => exact .cons (dp_less hd h1) (dpAll_less hd h2)
end
def lockD (i : Nat) (f : En → R SV) : En → R SV := fun ρ => match ρ[i]? with
  | some (some (.od kvs)) => (match f (ρ.set i (some (.pd kvs))) with
    | .ok (.ol xs) => .ok (.ol xs)
    | _ => .bad)
  | _ => .bad
theorem sem_lock {i : Nat} {t : TE} {f : En → R SV} (h : SemE c true t f) : SemE c true (tLockE t) (lockD i f) := by
  intro B H0 Hf H σ ρ Q I o
  unfold lockD at o
  split at o
  rotate_left
  · exact o.elim
  rename_i kvs e
  obtain ⟨v, h1, p, ws, rfl, h2, h3, h4⟩ := I.sl i _ e
  have hn := I.new i _ p e rfl h1
  refine ⟨p, .dK ws, h2, trivial, fun od => ?_⟩
  have g : Same Hf (L2.upd Hf p (.frz od (.dK ws))) := upd_grow h3
  have I1 : EnvOk c.K B H0 (L2.upd Hf p (.frz od (.dK ws))) (L2.upd H p (.frz od (.dK ws))) σ (ρ.set i (some (.pd kvs))) := by
    refine ⟨⟨I.ext.f.trans g, fun b o eb => ?_, upd_both I.i, fun b eb => ?_⟩, by rw [List.length_set, I.len], fun j s ej => ?_, fun j s q ej oj es => ?_, fun j k sj sk q ej oj ek ok e1 e2 => ?_, fun j ys ej => ?_⟩
    · rw [upd_ne (ne_of_none eb hn)]; exact I.ext.h _ _ eb
    · by_cases hb : b = p
      · subst hb; exact .inr hn
      · rw [upd_ne hb] at eb; exact I.ext.n b eb
    · rcases set_get ej with ⟨rfl, ej, _⟩ | ⟨hj, ej⟩
      · cases ej
        exact ⟨_, h1, p, ws, od, rfl, upd_same, dkv_mono g h4⟩
      · obtain ⟨w, w1, w2⟩ := I.sl j s ej
        refine ⟨w, w1, ?_⟩
        cases s with
        | d x => exact dp_mono g w2
        | ol ys =>
          obtain ⟨q, us, rfl, u1, u2, u3⟩ := w2
          have hq : q ≠ p := fun z => hj (I.sep j i _ _ p ej rfl e rfl (z ▸ w1) h1)
          exact ⟨q, us, rfl, by rw [upd_ne hq]; exact u1, by rw [upd_ne hq]; exact u2, dpAll_mono g u3⟩
        | od ys =>
          obtain ⟨q, us, rfl, u1, u2, u3⟩ := w2
          have hq : q ≠ p := fun z => hj (I.sep j i _ _ p ej rfl e rfl (z ▸ w1) h1)
          exact ⟨q, us, rfl, by rw [upd_ne hq]; exact u1, by rw [upd_ne hq]; exact u2, dkv_mono g u3⟩
        | pin ys =>
          obtain ⟨q, us, rfl, u1, u2, u3⟩ := w2
          have hq : q ≠ p := I.pin_ne ej w1 hn
          exact ⟨q, us, rfl, by rw [upd_ne hq]; exact u1, by rw [upd_ne hq]; exact u2, dpAll_mono g u3⟩
        | exn n as =>
          refine ⟨w2.1, w2.2.1, ?_⟩
          have w3 := w2.2.2
          unfold ExFs at w3 ⊢
          split at w3
          · exact w3
          · obtain ⟨vs, a1, a2, a3⟩ := w3
            exact ⟨vs, by rw [upd_ne (fun z => by rw [z, h2] at a1; cases a1)]; exact a1, a2, dpAll_mono g a3⟩
        | pd ys =>
          obtain ⟨q, us, o', rfl, u1, u3⟩ := w2
          have hq : q ≠ p := fun z => by rw [z, h3] at u1; cases u1
          exact ⟨q, us, o', rfl, by rw [upd_ne hq]; exact u1, dkv_mono g u3⟩
        | kd ys =>
          obtain ⟨q, ep, us, rfl, u1, u2, u3⟩ := w2
          have hq : q ≠ p := fun z => hj (I.sep j i _ _ p ej rfl e rfl (z ▸ w1) h1)
          exact ⟨q, ep, us, rfl, by rw [upd_ne hq]; exact u1, by rw [upd_ne hq]; exact u2, kdr_mono g u3⟩
        | sk ys =>
          obtain ⟨q, ep, us, rfl, u1, u3⟩ := w2
          have hq : q ≠ p := fun z => by rw [z, h3] at u1; cases u1
          exact ⟨q, ep, us, rfl, by rw [upd_ne hq]; exact u1, kdr_mono g u3⟩
        | sd ys =>
          obtain ⟨q, us, rfl, u1, u3⟩ := w2
          have hq : q ≠ p := fun z => by rw [z, h3] at u1; cases u1
          exact ⟨q, us, rfl, by rw [upd_ne hq]; exact u1, dkv_mono g u3⟩
        | so C ys =>
          obtain ⟨q, dx, us, rfl, u1, u3⟩ := w2
          have hq : q ≠ p := fun z => by rw [z, h3] at u1; cases u1
          exact ⟨q, dx, us, rfl, by rw [upd_ne hq]; exact u1, fsr_mono g u3⟩
        | oi C ys =>
          obtain ⟨q, dx, us, rfl, u1, u2, u3⟩ := w2
          have hq : q ≠ p := fun z => hj (I.sep j i _ _ p ej rfl e rfl (z ▸ w1) h1)
          exact ⟨q, dx, us, rfl, by rw [upd_ne hq]; exact u1, by rw [upd_ne hq]; exact u2, fsr_mono g u3⟩
    · rcases set_get ej with ⟨_, ej, _⟩ | ⟨_, ej⟩
      · cases ej; cases oj
      · exact I.new j s q ej oj es
    · rcases set_get ej with ⟨_, ej, _⟩ | ⟨_, ej⟩
      · cases ej; cases oj
      · rcases set_get ek with ⟨_, ek, _⟩ | ⟨_, ek⟩
        · cases ek; cases ok
        · exact I.sep j k sj sk q ej oj ek ok e1 e2
    · rcases set_get ej with ⟨_, ej, _⟩ | ⟨_, ej⟩
      · cases ej
      · exact I.pin j ys ej
  refine h B H0 _ _ σ _ _ I1 ?_
  cases ef : f (ρ.set i (some (.pd kvs))) with
  | bad => rw [ef] at o; exact o.elim
  | ex n as => rw [ef] at o; exact o.elim
  | ok r =>
    rw [ef] at o
    cases r with
    | d x => exact o.elim
    | od x => exact o.elim
    | pin x => exact o.elim
    | exn n as => exact o.elim
    | pd x => exact o.elim
    | kd x => exact o.elim
    | sk x => exact o.elim
    | sd x => exact o.elim
    | so C x => exact o.elim
    | oi C x => exact o.elim
    | ol xs =>
      intro v Hf' H' x q fr
      obtain ⟨p2, vs, rfl, q1, q2, q3⟩ := q
      have hp := x.h _ _ (upd_same (H := H) (a := p) (o := .frz od (.dK ws)))
      have hfp := x.f _ _ (upd_same (H := Hf) (a := p) (o := .frz od (.dK ws)))
      have hne : p2 ≠ p := fun z => by rw [z, hp] at q1; cases q1
      refine ⟨hp, (show GE c true Hf H Q (.ol xs) from o) (.ref p2) (less p Hf') (L2.upd H' p (.dK ws)) ⟨fun b o eb => ?_, fun b o eb => ?_, fun b o eb => ?_, fun b eb => ?_⟩ ⟨p2, vs, rfl, by rw [upd_ne hne]; exact q1, by rw [less_ne hne]; exact q2, dpAll_less hfp q3⟩ fun a b p' e' => ?_⟩
      · have hb : b ≠ p := ne_of_none eb h3
        rw [less_ne hb]; exact x.f _ _ (by rw [upd_ne hb]; exact eb)
      · by_cases hb : b = p
        · subst hb; rw [h2] at eb; cases eb; exact upd_same
        · rw [upd_ne hb]; exact x.h _ _ (by rw [upd_ne hb]; exact eb)
      · have hb : b ≠ p := fun z => by rw [z] at eb; unfold less at eb; rw [if_pos rfl] at eb; cases eb
        rw [less_ne hb] at eb
        rw [upd_ne hb]; exact x.i _ _ eb
      · have hb : b ≠ p := fun z => by rw [z] at eb; unfold less at eb; rw [if_pos rfl] at eb; exact eb rfl
        rw [less_ne hb] at eb
        rcases x.n b eb with z | z
        · rw [upd_ne hb] at z; exact .inl z
        · rw [upd_ne hb] at z; exact .inr z
      · have z := fr rfl rfl p' e'
        have hb : p' ≠ p := fun w => by rw [w, upd_same] at z; cases z
        rw [upd_ne hb] at z; exact z
def keyD : Key → D
  | .inl i => .int i
  | .inr s => .str s
theorem keyD_ok {K : PySem.W.Frag} {Hf : Hp} : ∀ k : Key, Dp K Hf (kV k) (keyD k)
  | .inl i => .int i
  | .inr s => .str s
def keysD (i : Nat) : En → R (List D) := fun ρ => match ρ[i]? with
  | some (some (.pd kvs)) => .ok (kvs.map fun kv => keyD kv.1)
  | _ => .bad
theorem dkv_at {K : PySem.W.Frag} {Hf : Hp} : ∀ {ws : List (Key × V)} {ks : List (Key × D)} {i : Nat} {k : Key} {v : V}, DpKV K Hf ws ks → ws[i]? = some (k, v) → ∃ d, ks[i]? = some (k, d)
  | _, _, _, _, _, .nil, e => by simp at e
  | _, _, 0, _, _, .cons (b := b) q _, e => by
    simp at e; subst e
    exact ⟨b.2, by simp; exact Prod.ext q.1.symm rfl⟩
  | _, _, i + 1, _, _, .cons q r, e => by
    obtain ⟨d, h⟩ := dkv_at (i := i) r (by simpa using e)
    exact ⟨d, by simpa using h⟩
theorem sem_keysI {i : Nat} : SemI c (iKeys (tVar i)) (keysD i) := by
  intro B H0 Hf H σ ρ Rr I o
  unfold keysD at o
  split at o
  rotate_left
  · exact o.elim
  rename_i kvs e
  obtain ⟨v, h1, p, ws, od, rfl, h2, h3⟩ := I.sl i _ e
  refine ⟨.ref p, h1, p, od, rfl, .inl ⟨ws, I.i _ _ h2, ?_⟩⟩
  refine o _ Hf H (.refl I.i) ⟨fun i H x H' => H' = H ∧ ∃ k v, ws[i]? = some (k, v) ∧ x = kV k, ?_, fun j H x H' Hfi hi s1 s2 y => ?_⟩
  · rw [List.length_map, ← dkv_len h3]
    exact walk_keys.mono (fun H e => e _ _ h2) fun _ _ _ _ _ _ y => y
  · obtain ⟨rfl, k, v, e1, rfl⟩ := y
    obtain ⟨d, e2⟩ := dkv_at h3 e1
    exact ⟨keyD k, Hfi, by rw [List.getElem?_map, e2]; rfl, .refl s2, keyD_ok k⟩
end
end Pl
/-! PlD: dicts keyed by tuples (own .kd, shared .sk); list(d), sorted(d); defs whose arguments may be shared dicts or instances. -/
namespace Pl
open PySem PySem.Spec PyProof.Rows L2
theorem uk {k : Nat} {A : Around} (r : Room k A) : A.units + 65 < cLine := by have := r.un; omega
def kdKey : SV → R NestedKey
  | .d (.tuple ds) => match nkD (.tuple ds) with
    | some k => if k.depth ≤ 8 then .ok k else .bad
    | none => .bad
  | _ => .bad
theorem kdKey_ok {K : Kx} {Hf H : Hp} {v : V} {r : SV} {k : NestedKey} (q : RepR K Hf H v r) (e : kdKey r = .ok k) : ∃ b, v = .ref b ∧ KeyH K Hf k b := by
  unfold kdKey at e
  split at e
  · rename_i ds
    split at e
    · rename_i k' ek
      split at e
      · rename_i hd
        cases e
        have q' : Dp K.k Hf v (.tuple ds) := q
        have hk := nk_data _ _ ek
        cases q' with
        | tup h1 h2 =>
          refine ⟨_, rfl, ?_, hd⟩
          rw [hk]
          exact .tup h1 h2
      · cases e
    · cases e
  · cases e
def kdOf : SV → Option (List (NestedKey × D))
  | .kd kvs => some kvs
  | .sk kvs => some kvs
  | _ => none
theorem kdOf_ok {K : Kx} {Hf H : Hp} {v : V} {r : SV} {kvs : List (NestedKey × D)} (i : Same Hf H) (q : RepR K Hf H v r) (e : kdOf r = some kvs) : ∃ p ep xs, v = .ref p ∧ H p = some (kdx K.w p ep xs) ∧ Paired (KdR K Hf) xs kvs := by
  cases r with
  | kd ks => cases e; obtain ⟨p, ep, xs, h, h1, _, h3⟩ := q; exact ⟨p, ep, xs, h, h1, h3⟩
  | sk ks => cases e; obtain ⟨p, ep, xs, h, h1, h3⟩ := q; exact ⟨p, ep, xs, h, i _ _ h1, h3⟩
  | _ => cases e
theorem kdr_mem {K : PySem.W.Frag} {Hf : Hp} : ∀ {xs : KX} {kvs : List (NestedKey × D)}, Paired (KdR K Hf) xs kvs → ∀ x ∈ xs, KeyH K Hf x.1 x.2.1
  | _, _, .nil, x, h => by cases h
  | _, _, .cons q r, x, h => by
    rcases List.mem_cons.mp h with rfl | h
    · exact q.2.1
    · exact kdr_mem r x h
theorem keyH_mono {K : PySem.W.Frag} {Hf H : Hp} {k : NestedKey} {b : Addr} (i : Same Hf H) (h : KeyH K Hf k b) : KeyH K H k b := ⟨dp_mono i h.1, h.2⟩
theorem kd_mk {K : PySem.W.Frag} {w : World} {Hf H : Hp} {p : Addr} {ep : Nat} {xs : KX} {kvs : List (NestedKey × D)} (i : Same Hf H) (h : H p = some (kdx w p ep xs)) (r : Paired (KdR K Hf) xs kvs) : KD K w H p xs :=
  ⟨⟨ep, h⟩, fun x hx => keyH_mono i (kdr_mem r x hx)⟩
theorem kdr_len {K : PySem.W.Frag} {Hf : Hp} {xs : KX} {kvs : List (NestedKey × D)} (h : Paired (KdR K Hf) xs kvs) : xs.length = kvs.length := Paired.length h
theorem kdr_val {K : PySem.W.Frag} {Hf : Hp} (k : NestedKey) : ∀ {xs : KX} {kvs : List (NestedKey × D)}, Paired (KdR K Hf) xs kvs → (valD kvs k = none ∧ valX xs k = none) ∨ ∃ d v, valD kvs k = some d ∧ valX xs k = some v ∧ Dp K Hf v d
  | _, _, .nil => .inl ⟨rfl, rfl⟩
  | _, _, .cons (a := a) (b := b) (l₂ := l₂) q r => by
    by_cases c : a.1 = k
    · exact .inr ⟨b.2, a.2.2, by simp [valD, List.find?_cons, q.1.symm.trans c], valX_pos c, q.2.2⟩
    · rw [valX_neg c]
      have e : valD (b :: l₂) k = valD l₂ k := by simp [valD, List.find?_cons, show ¬ b.1 = k from fun z => c (q.1.trans z)]
      rw [e]
      exact kdr_val k r
theorem kdr_some {K : PySem.W.Frag} {Hf : Hp} (k : NestedKey) {xs : KX} {kvs : List (NestedKey × D)} (h : Paired (KdR K Hf) xs kvs) : (valX xs k).isSome = (valD kvs k).isSome := by
  rcases kdr_val k h with ⟨a1, a2⟩ | ⟨d, v, a1, a2, _⟩ <;> rw [a1, a2] <;> rfl
theorem valD_any {κ : Type} [DecidableEq κ] (k : κ) : ∀ kvs : List (κ × D), (kvs.any fun kv => decide (kv.1 = k)) = (valD kvs k).isSome
  | [] => rfl
  | p :: r => by
    rw [List.any_cons]
    by_cases e : p.1 = k
    · simp [valD, List.find?_cons, e]
    · have e2 : valD (p :: r) k = valD r k := by simp [valD, List.find?_cons, e]
      rw [e2, decide_eq_false e, Bool.false_or]; exact valD_any k r
theorem kdr_map {K : PySem.W.Frag} {Hf : Hp} {k : NestedKey} {v : V} {d : D} (hv : Dp K Hf v d) : ∀ {xs : KX} {kvs : List (NestedKey × D)}, Paired (KdR K Hf) xs kvs → Paired (KdR K Hf) (xs.map fun x => if x.1 = k then (x.1, x.2.1, v) else x) (kvs.map fun kv => if kv.1 = k then (kv.1, d) else kv)
  | _, _, .nil => .nil
  | _, _, .cons (a := a) (b := b) q r => by
    rw [List.map_cons, List.map_cons]
    refine .cons ?_ (kdr_map hv r)
    by_cases e : a.1 = k
    · rw [if_pos e, if_pos (q.1.symm.trans e)]; exact ⟨q.1, q.2.1, hv⟩
    · rw [if_neg e, if_neg (fun z => e (q.1.trans z))]; exact q
theorem kdr_put {K : PySem.W.Frag} {Hf : Hp} {k : NestedKey} {b : Addr} {v : V} {d : D} {xs : KX} {kvs : List (NestedKey × D)} (hk : KeyH K Hf k b) (hv : Dp K Hf v d) (h : Paired (KdR K Hf) xs kvs) : Paired (KdR K Hf) (putX xs k b v) (putD kvs k d) := by
  unfold putX putD
  rw [valD_any, kdr_some k h]
  split
  · exact kdr_map hv h
  · exact Paired.snoc h ⟨rfl, hk, hv⟩
theorem ExFs.updK {K : Kx} {Hf H : Hp} {as : List D} {p : Addr} {w : World} {ep : Nat} {xs : KX} {o : HO} (hp : H p = some (kdx w p ep xs)) (h : ExFs K Hf H as) : ExFs K Hf (L2.upd H p o) as := by
  unfold ExFs at h ⊢
  split at h
  · exact h
  · obtain ⟨vs, h1, h2, h3⟩ := h
    exact ⟨vs, by rw [upd_ne (fun z => by subst z; rw [hp] at h1; unfold kdx at h1; cases h1)]; exact h1, h2, h3⟩
theorem EnvOk.rewriteK {K : Kx} {B : Bs} {H0 Hf H : Hp} {σ : L2.St} {ρ : En} {i : Nat} {s s' : SV} {p : Addr} {ep : Nat} {xs : KX} {o : HO} (I : EnvOk K B H0 Hf H σ ρ) (e : ρ[i]? = some (some s)) (ho : s.own = true) (h1 : σ[i]? = some (some (.ref p)))
    (h2 : H p = some (kdx K.w p ep xs)) (h3 : Hf p = none) (q : RepR K Hf (upd H p o) (.ref p) s') (hs : s'.own = true) : EnvOk K B H0 Hf (upd H p o) σ (ρ.set i (some s')) := by
  have hn := I.new i _ p e ho h1
  refine ⟨⟨I.ext.f, fun b o eb => ?_, fun b o eb => ?_, I.ext.n⟩, by rw [List.length_set]; exact I.len, fun j s ej => ?_, fun j s q ej oj es => ?_, fun j k sj sk q ej oj ek ok e1 e2 => ?_, fun j ys ej => ?_⟩
  · rw [upd_ne (ne_of_none eb hn)]; exact I.ext.h _ _ eb
  · rw [upd_ne (ne_of_none eb h3)]; exact I.i _ _ eb
  · rcases set_get ej with ⟨rfl, ej, _⟩ | ⟨hj, ej⟩
    · cases ej
      exact ⟨_, h1, q⟩
    · obtain ⟨w, w1, w2⟩ := I.sl j s ej
      refine ⟨w, w1, ?_⟩
      cases s with
      | d x => exact w2
      | ol ys =>
        obtain ⟨q, us, rfl, u1, u2⟩ := w2
        have hq : q ≠ p := fun z => hj (I.sep j i _ _ p ej rfl e ho (z ▸ w1) h1)
        exact ⟨q, us, rfl, by rw [upd_ne hq]; exact u1, u2⟩
      | od ys =>
        obtain ⟨q, us, rfl, u1, u2⟩ := w2
        have hq : q ≠ p := fun z => hj (I.sep j i _ _ p ej rfl e ho (z ▸ w1) h1)
        exact ⟨q, us, rfl, by rw [upd_ne hq]; exact u1, u2⟩
      | pin ys =>
        obtain ⟨q, us, rfl, u1, u2⟩ := w2
        have hq : q ≠ p := I.pin_ne ej w1 hn
        exact ⟨q, us, rfl, by rw [upd_ne hq]; exact u1, u2⟩
      | exn n as => exact ⟨w2.1, w2.2.1, w2.2.2.updK h2⟩
      | pd ys => exact w2
      | kd ys =>
        obtain ⟨q, ep, us, rfl, u1, u2⟩ := w2
        have hq : q ≠ p := fun z => hj (I.sep j i _ _ p ej rfl e ho (z ▸ w1) h1)
        exact ⟨q, ep, us, rfl, by rw [upd_ne hq]; exact u1, u2⟩
      | sk ys => exact w2
      | sd ys => exact w2
      | so C fs => exact w2
      | oi C fs =>
        obtain ⟨q, dx, us, rfl, u1, u2⟩ := w2
        have hq : q ≠ p := fun z => hj (I.sep j i _ _ p ej rfl e ho (z ▸ w1) h1)
        exact ⟨q, dx, us, rfl, by rw [upd_ne hq]; exact u1, u2⟩
  · rcases set_get ej with ⟨rfl, ej, _⟩ | ⟨_, ej⟩
    · rw [h1] at es; cases es; exact hn
    · exact I.new j s q ej oj es
  · have old : ∀ {j : Nat} {t : SV}, (ρ.set i (some s'))[j]? = some (some t) → t.own = true → ∃ t', ρ[j]? = some (some t') ∧ t'.own = true := by
      intro j t ej oj
      rcases set_get ej with ⟨rfl, _, _⟩ | ⟨_, ej⟩
      · exact ⟨_, e, ho⟩
      · exact ⟨t, ej, oj⟩
    obtain ⟨sj', a1, a2⟩ := old ej oj
    obtain ⟨sk', b1, b2⟩ := old ek ok
    exact I.sep j k sj' sk' q a1 a2 b1 b2 e1 e2
  · rcases set_get ej with ⟨_, ej, _⟩ | ⟨_, ej⟩
    · cases ej; cases hs
    · exact I.pin j ys ej
section
variable {c : Ct}
def knewS : En → R SV := fun _ => .ok (.kd [])
theorem sem_knew : SemE c true (tKNew c.K.w) knewS := by
  intro B H0 Hf H σ ρ Q I o
  exact fun p ep hp => (show GE c true Hf H Q (.kd []) from o) _ Hf _ (.fresh I.i hp) ⟨p, ep, [], rfl, upd_same, I.i.free hp, .nil⟩ fun _ _ p' e => by cases e; exact hp
def kputS (i : Nat) (fk f : En → R SV) : En → R Fl := fun ρ => f ρ >>= fun r => datS r >>= fun d => match ρ[i]? with
  | some (some (.kd kvs)) => fk ρ >>= fun kk => match kdKey kk with
    | .ok k => if kvs.length < sizeLine then .ok (.nx (ρ.set i (some (.kd (putD kvs k d))))) else .bad
    | _ => .bad
  | _ => .bad
theorem sem_kput {i : Nat} {t tk : TE} {f fk : En → R SV} (h : SemE c true t f) (hk : SemE c true tk fk) : SemS c (sKPut c.K c.K.w (tVar i) tk t) (kputS i fk f) := by
  intro B H0 Hf H σ ρ Dn I o
  refine h B H0 Hf H σ ρ _ I ((Out.bind o fun a ea o1 => ?_ : Out c B H0 (f ρ) (GE c true Hf H _)).here I.ext)
  intro u Hf1 H1 x1 q1 fr
  obtain ⟨d, ed, o2⟩ := out_dat o1
  obtain ⟨Hf2, x2, q2⟩ := froze x1 q1 (fr rfl) ed
  split at o2
  rotate_left
  · exact o2.elim
  rename_i kvs e
  have I2 := I.grow x2
  obtain ⟨v, h1, p, ep, xs, rfl, h2, h3, h4⟩ := I2.sl i _ e
  refine ⟨.ref p, h1, ?_⟩
  refine hk B H0 Hf2 H1 σ ρ _ I2 ((Out.bind o2 fun kk ek o3 => ?_ : Out c B H0 (fk ρ) (GE c true Hf2 H1 _)).here I2.ext)
  intro w Hf3 H3 x3 q3 _
  split at o3
  rotate_left
  · exact o3.elim
  rename_i k ek
  obtain ⟨b, rfl, hb⟩ := kdKey_ok q3 ek
  split at o3
  rotate_left
  · exact o3.elim
  rename_i hl
  have I3 := I2.grow x3
  have h2' := x3.h _ _ h2
  have h3' := x3.still h2 h3
  have h4' := kdr_mono x3.f h4
  exact ⟨p, xs, k, b, rfl, rfl, kd_mk x3.i h2' h4', keyH_mono x3.i hb, by rw [kdr_len h4]; exact hl, fun ep' => (show GS c B H0 Dn (.nx _) from o3) _ _ _ (I3.rewriteK e rfl h1 h2' h3' ⟨p, ep', _, rfl, upd_same, h3', kdr_put hb (dp_mono x3.f q2) h4'⟩ rfl)⟩
def kgS (r kk : SV) : R SV := match kdOf r with
  | some kvs => (match kdKey kk with
    | .ok k => (match valD kvs k with
      | some d => .ok (.d d)
      | none => .bad)
    | _ => .bad)
  | none => .bad
def kget (fd fy : En → R SV) : En → R SV := fun ρ => fd ρ >>= fun r => fy ρ >>= fun kk => kgS r kk
theorem sem_kget {td ty : TE} {fd fy : En → R SV} (hd : SemE c false td fd) (hy : SemE c true ty fy) : SemE c true (tKGet c.K c.K.w td ty) (kget fd fy) := by
  intro B H0 Hf H σ ρ Q I o
  refine hd B H0 Hf H σ ρ _ I (Out.bind o fun r er o1 => fun v Hf1 H1 x1 q1 _ => ?_)
  refine hy B H0 Hf1 H1 σ ρ _ (I.grow x1) (Out.bind (o1.grow x1 fun _ g => g) fun kk ek o2 => fun u Hf2 H2 x2 q2 _ => ?_)
  unfold kgS at o2
  split at o2
  rotate_left
  · exact o2.elim
  rename_i kvs er'
  split at o2
  rotate_left
  · exact o2.elim
  rename_i k ek'
  split at o2
  rotate_left
  · exact o2.elim
  rename_i d ed
  obtain ⟨p, ep, xs, rfl, h2, h3⟩ := kdOf_ok x2.i (q1.grow x2) er'
  obtain ⟨b, rfl, hb⟩ := kdKey_ok q2 ek'
  rcases kdr_val k h3 with ⟨a1, a2⟩ | ⟨d', v', a1, a2, a3⟩
  · rw [a1] at ed; cases ed
  · rw [a1] at ed; cases ed
    exact ⟨p, xs, k, b, v', rfl, rfl, kd_mk x2.i h2 h3, keyH_mono x2.i hb, a2, GE.now (GE.grow (GE.grow (show GE c true Hf H Q _ from o2) x1) x2) x2.i a3⟩
def kg1 (kvs : List (NestedKey × D)) (kk x : SV) : R SV := match kdKey kk with
  | .ok k => (match x with
    | .d x => .ok (.d ((valD kvs k).getD x))
    | _ => .bad)
  | _ => .bad
def kget1 (fd fy : En → R SV) : En → R SV := fun ρ => fd ρ >>= fun r => match kdOf r with
  | some kvs => fy ρ >>= fun kk => kg1 kvs kk (.d .none)
  | none => .bad
def kget2 (fd fy fx : En → R SV) : En → R SV := fun ρ => fd ρ >>= fun r => match kdOf r with
  | some kvs => fy ρ >>= fun kk => fx ρ >>= fun x => kg1 kvs kk x
  | none => .bad
theorem sem_kget1 {td ty : TE} {fd fy : En → R SV} (hd : SemE c false td fd) (hy : SemE c true ty fy) : SemE c true (tKGet1 c.K c.K.w td ty) (kget1 fd fy) := by
  intro B H0 Hf H σ ρ Q I o
  refine hd B H0 Hf H σ ρ _ I (Out.bind o fun r er o1 => fun v Hf1 H1 x1 q1 _ => ?_)
  split at o1
  rotate_left
  · exact o1.elim
  rename_i kvs er'
  obtain ⟨p, ep, xs, rfl, h2, h3⟩ := kdOf_ok x1.i q1 er'
  refine ⟨p, xs, rfl, kd_mk x1.i h2 h3, ?_⟩
  refine hy B H0 Hf1 H1 σ ρ _ (I.grow x1) (Out.bind (o1.grow x1 fun _ g => g) fun kk ek o2 => fun u Hf2 H2 x2 q2 _ => ?_)
  unfold kg1 at o2
  split at o2
  rotate_left
  · exact o2.elim
  rename_i k ek'
  obtain ⟨b, rfl, hb⟩ := kdKey_ok q2 ek'
  have h3' := kdr_mono x2.f h3
  refine ⟨k, b, rfl, kd_mk x2.i (x2.h _ _ h2) h3', keyH_mono x2.i hb, ?_⟩
  have g := GE.grow (GE.grow (show GE c true Hf H Q (.d ((valD kvs k).getD .none)) from o2) x1) x2
  rcases kdr_val k h3' with ⟨a1, a2⟩ | ⟨d', v', a1, a2, a3⟩
  · rw [a1] at g; rw [a2]; exact GE.now g x2.i .non
  · rw [a1] at g; rw [a2]; exact GE.now g x2.i a3
theorem sem_kget2 {td ty tx : TE} {fd fy fx : En → R SV} (hd : SemE c false td fd) (hy : SemE c true ty fy) (hx : SemE c false tx fx) : SemE c true (tKGet2 c.K c.K.w td ty tx) (kget2 fd fy fx) := by
  intro B H0 Hf H σ ρ Q I o
  refine hd B H0 Hf H σ ρ _ I (Out.bind o fun r er o1 => fun v Hf1 H1 x1 q1 _ => ?_)
  split at o1
  rotate_left
  · exact o1.elim
  rename_i kvs er'
  obtain ⟨p, ep, xs, rfl, h2, h3⟩ := kdOf_ok x1.i q1 er'
  refine ⟨p, xs, rfl, kd_mk x1.i h2 h3, ?_⟩
  refine hy B H0 Hf1 H1 σ ρ _ (I.grow x1) (Out.bind (o1.grow x1 fun _ g => g) fun kk ek o2 => fun u Hf2 H2 x2 q2 _ => ?_)
  refine hx B H0 Hf2 H2 σ ρ _ ((I.grow x1).grow x2) (Out.bind (o2.grow x2 fun _ g => g) fun x ex o3 => fun z Hf3 H3 x3 q3 _ => ?_)
  unfold kg1 at o3
  split at o3
  rotate_left
  · exact o3.elim
  rename_i k ek'
  split at o3
  rotate_left
  · exact o3.elim
  obtain ⟨b, rfl, hb⟩ := kdKey_ok q2 ek'
  have h3' := kdr_mono (x2.f.trans x3.f) h3
  refine ⟨k, b, rfl, kd_mk x3.i (x3.h _ _ (x2.h _ _ h2)) h3', keyH_mono (x3.f.trans x3.i) hb, ?_⟩
  have g := GE.grow (GE.grow (GE.grow (show GE c true Hf H Q _ from o3) x1) x2) x3
  rcases kdr_val k h3' with ⟨a1, a2⟩ | ⟨d', v', a1, a2, a3⟩
  · rw [a1] at g; rw [a2]; exact GE.now g x3.i q3
  · rw [a1] at g; rw [a2]; exact GE.now g x3.i a3
def kinS (neg : Bool) (kk r : SV) : R SV := match kdKey kk with
  | .ok k => (match kdOf r with
    | some kvs => .ok (.d (.bool (if neg then !(valD kvs k).isSome else (valD kvs k).isSome)))
    | none => .bad)
  | _ => .bad
def kin (neg : Bool) (fy fd : En → R SV) : En → R SV := fun ρ => fy ρ >>= fun kk => fd ρ >>= fun r => kinS neg kk r
theorem sem_kin_core {neg : Bool} {td ty : TE} {fd fy : En → R SV} (hy : SemE c true ty fy) (hd : SemE c false td fd) {B : Bs} {H0 Hf H : Hp} {σ : L2.St} {ρ : En} {Q : VK} (I : EnvOk c.K B H0 Hf H σ ρ) (o : Out c Hf H (kin neg fy fd ρ) (GE c true Hf H Q)) :
    ty σ H fun y H1 => td σ H1 fun x H2 => ∃ a xs k b, x = .ref a ∧ y = .ref b ∧ KD c.K c.K.w H2 a xs ∧ KeyH c.K H2 k b ∧ Q (.bl (if neg then !(valX xs k).isSome else (valX xs k).isSome)) H2 := by
  refine hy B H0 Hf H σ ρ _ I (Out.bind o fun kk ek o1 => fun v Hf1 H1 x1 q1 _ => ?_)
  refine hd B H0 Hf1 H1 σ ρ _ (I.grow x1) (Out.bind (o1.grow x1 fun _ g => g) fun r er o2 => fun u Hf2 H2 x2 q2 _ => ?_)
  unfold kinS at o2
  split at o2
  rotate_left
  · exact o2.elim
  rename_i k ek'
  split at o2
  rotate_left
  · exact o2.elim
  rename_i kvs er'
  obtain ⟨p, ep, xs, rfl, h2, h3⟩ := kdOf_ok x2.i q2 er'
  obtain ⟨b, rfl, hb⟩ := kdKey_ok q1 ek'
  refine ⟨p, xs, k, b, rfl, rfl, kd_mk x2.i h2 h3, keyH_mono (x2.f.trans x2.i) hb, ?_⟩
  rw [kdr_some k h3]
  exact GE.now (GE.grow (GE.grow (show GE c true Hf H Q _ from o2) x1) x2) x2.i (.bl _)
theorem sem_kin {td ty : TE} {fd fy : En → R SV} (hy : SemE c true ty fy) (hd : SemE c false td fd) : SemE c true (tKIn c.K c.K.w ty td) (kin false fy fd) := fun _ _ _ _ _ _ _ I o => sem_kin_core (neg := false) hy hd I o
theorem sem_kNotIn {td ty : TE} {fd fy : En → R SV} (hy : SemE c true ty fy) (hd : SemE c false td fd) : SemE c true (tKNotIn c.K c.K.w ty td) (kin true fy fd) := fun _ _ _ _ _ _ _ I o => sem_kin_core (neg := true) hy hd I o
/-! ### a walk over a shared dict -/
def kkeysD (i : Nat) : En → R (List D) := fun ρ => match ρ[i]? with
  | some (some (.sk kvs)) => .ok (kvs.map fun kv => kv.1.data)
  | _ => .bad
theorem kdr_at {K : PySem.W.Frag} {Hf : Hp} {xs : KX} {kvs : List (NestedKey × D)} {i : Nat} {x : NestedKey × Addr × V} (h : Paired (KdR K Hf) xs kvs) (e : xs[i]? = some x) : ∃ kv, kvs[i]? = some kv ∧ KdR K Hf x kv := paired_get h e
theorem sem_kkeysI {i : Nat} : SemI c (iKKeys c.K.w (tVar i)) (kkeysD i) := by
  intro B H0 Hf H σ ρ Rr I o
  unfold kkeysD at o
  split at o
  rotate_left
  · exact o.elim
  rename_i kvs e
  obtain ⟨v, h1, p, ep, xs, rfl, h2, h3⟩ := I.sl i _ e
  refine ⟨.ref p, h1, p, ep, xs, rfl, I.i _ _ h2, ?_⟩
  refine o _ Hf H (.refl I.i) ⟨fun i H x H' => H' = H ∧ ∃ y, xs[i]? = some y ∧ x = .ref y.2.1, ?_, fun j H x H' Hfi hi s1 s2 y => ?_⟩
  · rw [List.length_map, ← kdr_len h3]
    exact walk_kd.mono (fun H e => e _ _ h2) fun _ _ _ _ _ _ y => y
  · obtain ⟨rfl, y, e1, rfl⟩ := y
    obtain ⟨kv, e2, e3⟩ := kdr_at h3 e1
    refine ⟨kv.1.data, Hfi, by rw [List.getElem?_map, e2]; rfl, .refl s2, ?_⟩
    rw [← e3.1]
    exact dp_mono s1 e3.2.1.1
end
end Pl
/-! PlE: list.insert; list(d), sorted(d), len(d) of dicts; defs whose arguments may be shared dicts or instances (spG). -/
namespace Pl
open PySem PySem.Spec PyProof.Rows L2
/-! ### x.insert(k, e) -/
def rInsL : V → List V → Hp → VK → Prop := fun x vs H Q => ∃ (l : Addr) (xs : List V) (i : Int) (y : V), x = .ref l ∧ vs = [.int i, y] ∧ H l = some (.lst xs) ∧ xs.length < sizeLine ∧ 0 ≤ i ∧ i < 2 ^ 63 ∧
    Q .non (upd H l (.lst (xs.take i.toNat ++ [y] ++ xs.drop i.toNat)))
theorem mt_insL {X : Cx} : MtR X "list.insert" rInsL := mt_insert
section
variable {c : Ct}
def insS (i : Nat) (fk f : En → R SV) : En → R Fl := fun ρ => fk ρ >>= fun kk => f ρ >>= fun r => datS r >>= fun d => match kk, ρ[i]? with
  | .d (.int k), some (some (.ol xs)) => if 0 ≤ k ∧ k ≤ xs.length ∧ xs.length < sizeLine then .ok (.nx (ρ.set i (some (.ol (xs.take k.toNat ++ [d] ++ xs.drop k.toNat))))) else .bad
  | _, _ => .bad
def insAt (i : Nat) (fk f : En → R SV) : En → R Fl := fun ρ => match ρ[i]? with
  | some (some (.ol _)) => insS i fk f ρ
  | _ => .bad
theorem line63 : sizeLine < 2 ^ 62 := by rw [sizeLine_eq]; decide
theorem sem_ins {i : Nat} {tk t : TE} {fk f : En → R SV} (hk : SemE c false tk fk) (h : SemE c true t f) : SemS c (tDrop (tBM c.K "list" rInsL (tVar i) (tCons tk (tCons t tNil)))) (insAt i fk f) := by
  intro B H0 Hf H σ ρ Dn I o
  unfold insAt at o
  split at o
  rotate_left
  · exact o.elim
  rename_i xs e
  obtain ⟨v, h1, p, vs, rfl, h2, h3, h4⟩ := I.sl i _ e
  refine ⟨.ref p, h1, .inl ⟨rfl, vs, .inl (.inl h2)⟩, ?_⟩
  unfold insS at o
  refine hk B H0 Hf H σ ρ _ I ((Out.bind o fun kk ek o0 => ?_ : Out c B H0 (fk ρ) (GE c false Hf H _)).here I.ext)
  intro kv Hf0 H00 x0 q0 _
  refine h B H0 Hf0 H00 σ ρ _ (I.grow x0) ((Out.bind o0 fun a ea o1 => ?_ : Out c B H0 (f ρ) (GE c true Hf0 H00 _)).here (I.grow x0).ext)
  intro u Hf1 H1 x1 q1 fr
  obtain ⟨d, ed, o2⟩ := out_dat o1
  obtain ⟨Hf2, x2, q2⟩ := froze x1 q1 (fr rfl) ed
  split at o2
  rotate_left
  · exact o2.elim
  rename_i k xs' e' _z
  rw [e] at e'
  cases e'
  split at o2
  rotate_left
  · exact o2.elim
  rename_i hlen
  cases q0
  have xx := x0.trans x2
  have h2' := xx.h _ _ h2
  have h3' := xx.still h2 h3
  have hz := line63
  refine ⟨p, vs, k, u, rfl, rfl, h2', by rw [dpAll_len h4]; exact hlen.2.2, hlen.1, by omega, ?_⟩
  exact (show GS c B H0 Dn (.nx _) from o2) _ _ _ ((I.grow xx).rewrite e h1 h2' h3' (dpAll_append (dpAll_append (dpAll_take _ (dpAll_mono xx.f h4)) (.cons q2 .nil)) (dpAll_drop _ (dpAll_mono xx.f h4))))
/-! ### the keys of a dict as a row -/
def keysV : SV → Option (List D)
  | .od kvs => some (kvs.map fun kv => keyD kv.1)
  | .sd kvs => some (kvs.map fun kv => keyD kv.1)
  | .kd kvs => some (kvs.map fun kv => kv.1.data)
  | .sk kvs => some (kvs.map fun kv => kv.1.data)
  | _ => none
theorem dkv_keys {K : PySem.W.Frag} {Hf : Hp} : ∀ {ws : List (Key × V)} {ks : List (Key × D)}, DpKV K Hf ws ks → DpAll K Hf (ws.map fun kv => kV kv.1) (ks.map fun kv => keyD kv.1)
  | _, _, .nil => .nil
  | _, _, .cons (a := a) (b := b) q r => .cons (by show Dp K Hf (kV a.1) (keyD b.1); rw [q.1]; exact keyD_ok b.1) (dkv_keys r)
theorem kdr_keys {K : PySem.W.Frag} {Hf : Hp} : ∀ {xs : KX} {kvs : List (NestedKey × D)}, Paired (KdR K Hf) xs kvs → DpAll K Hf (xs.map fun x => V.ref x.2.1) (kvs.map fun kv => kv.1.data)
  | _, _, .nil => .nil
  | _, _, .cons (a := a) (b := b) q r => .cons (by show Dp K Hf (.ref a.2.1) b.1.data; rw [← q.1]; exact q.2.1.1) (kdr_keys r)
theorem keysV_ok {K : Kx} {Hf H : Hp} {v : V} {r : SV} {ds : List D} (i : Same Hf H) (q : RepR K Hf H v r) (e : keysV r = some ds) : ∃ p ks, v = .ref p ∧ KRow K.w H p ks ∧ DpAll K Hf ks ds := by
  cases r with
  | od ks => cases e; obtain ⟨p, ws, h, h1, _, h3⟩ := q; exact ⟨p, _, h, .inl ⟨ws, .inl h1, rfl⟩, dkv_keys h3⟩
  | sd ks => cases e; obtain ⟨p, ws, h, h1, h3⟩ := q; exact ⟨p, _, h, .inl ⟨ws, .inl (i _ _ h1), rfl⟩, dkv_keys h3⟩
  | kd ks => cases e; obtain ⟨p, ep, xs, h, h1, _, h3⟩ := q; exact ⟨p, _, h, .inr ⟨ep, xs, h1, rfl⟩, kdr_keys h3⟩
  | sk ks => cases e; obtain ⟨p, ep, xs, h, h1, h3⟩ := q; exact ⟨p, _, h, .inr ⟨ep, xs, i _ _ h1, rfl⟩, kdr_keys h3⟩
  | _ => cases e
theorem raw_keys {X : Cx} {pins : List (Addr × Obj)} {σ : L2.St} {H : Hp} {s : Shared} {a : Addr} {ks : List V} (I : Inv X pins σ H s) (h : KRow X.w H a ks) :
    (a == sysModules) = false ∧ ∃ es ep, s.heap.DictRaw a es ep ∧ es.size = ks.length ∧ ks.length ≤ sizeLine ∧ ∀ (i : Nat) (hi : i < es.size), ∃ x, ks[i]? = some x ∧ RelV x es[i].key := by
  rcases h with ⟨kvs, e, rfl⟩ | ⟨ep, xs, e, rfl⟩
  · obtain ⟨z, hd, vs, rel, dd⟩ := dk_rd I.hok e
    obtain ⟨es, ep, hr, hs, he⟩ := dd.raw
    have hl : kvs.length = vs.length := Paired.length rel
    refine ⟨hd, es, ep, hr, by rw [List.length_map, hs, hl], by rw [List.length_map]; exact z, fun i hi => ?_⟩
    have hx : i < kvs.length := by omega
    obtain ⟨u, hu, _⟩ := kv_get rel (i := i) (k := kvs[i].1) (v := kvs[i].2) (List.getElem?_eq_getElem hx)
    obtain ⟨h1, _⟩ := he i hi _ _ hu
    exact ⟨kV kvs[i].1, by rw [List.getElem?_map, List.getElem?_eq_getElem hx]; rfl, relV_key h1⟩
  · obtain ⟨l, n, ys, o, es, r, ho, hx, hdt, he, hn⟩ := (I.hok a _ e).1
    have hsz : es.size = xs.length := by rw [← Array.length_toList, he, List.length_map, ← Paired.length r]
    refine ⟨n, es, ep, ⟨o, ho, hx, hdt⟩, by rw [List.length_map, hsz], by rw [List.length_map]; exact l, fun i hi => ?_⟩
    have hi' : i < xs.length := by omega
    obtain ⟨y, hy, k1, k2, k3⟩ := krel_at r (List.getElem?_eq_getElem hi')
    have hen : es[i]? = some (entN X.w y) := by rw [← Array.getElem?_toList, he, List.getElem?_map, hy]; rfl
    rw [Array.getElem?_eq_getElem hi] at hen
    refine ⟨.ref xs[i].2.1, by rw [List.getElem?_map, List.getElem?_eq_getElem hi']; rfl, ?_⟩
    rw [Option.some.inj hen]
    show Value.ref _ = Value.ref _
    rw [k2]
theorem vals_of_at : ∀ {ks : List V} {us : List Value}, us.length = ks.length → (∀ (i : Nat) (u : Value), us[i]? = some u → ∃ x, ks[i]? = some x ∧ RelV x u) → Vals ks us
  | [], [], _, _ => .nil
  | [], _ :: _, h, _ => by simp at h
  | _ :: _, [], h, _ => by simp at h
  | k :: ks, u :: us, h, f => by
    obtain ⟨x, h1, h2⟩ := f 0 u rfl
    simp at h1
    subst h1
    exact .cons h2 (vals_of_at (by simpa using h) fun i w e => by simpa using f (i + 1) w (by simpa using e))
theorem items_vals {ks : List V} {es : Array DictEntry} {acc : Array Value} (hs : es.size = ks.length) (he : ∀ (i : Nat) (hi : i < es.size), ∃ x, ks[i]? = some x ∧ RelV x es[i].key)
    (h : ItemsOf (fun i v => ∃ hi : i < es.size, v = es[i].key) acc es.size) : Vals ks acc.toList := by
  refine vals_of_at (by rw [Array.length_toList, h.1, hs]) fun i u e => ?_
  obtain ⟨hi, rfl⟩ := h.2 i u (by rw [← Array.getElem?_toList]; exact e)
  exact he i hi
def rListK (w : World) : List V → Hp → VK → Prop := fun xs H Q => ∃ a ks, xs = [.ref a] ∧ KRow w H a ks ∧ ∀ p, H p = none → Q (.ref p) (upd H p (.lst ks))
theorem cb_listK {X : Cx} (hc : X.calm = true) : CallR X (.type "list") (rListK X.w) := by
  intro pins s σ H xs us Q I r h
  obtain ⟨a, ks, rfl, hr, q⟩ := h
  obtain rfl := Vals.ref1 r
  obtain ⟨n, es, ep, dr, hs, hl, he⟩ := raw_keys I hr
  refine PySem.W.kdl_call (PySem.KdlSrc.rawDict (es := es) (ep := ep) n) (I.ok.hd hc) dr (by rw [hs]; exact hl) fun h' tk acc' c' hk hD hacc => ?_
  have hv := items_vals hs he hacc
  exact ⟨.ref s.heap.objs.size, upd H s.heap.objs.size (.lst ks), I.laid (t' := tk) hk (Nat.le_refl _) ⟨hl, acc'.toList, c', hv, by rw [Array.toArray_toList]; exact hD⟩, rfl, q _ (I.hok.fresh (Nat.le_refl _))⟩
def listKS : List SV → R SV
  | [a] => (match keysV a with
    | some ds => .ok (.ol ds)
    | none => .bad)
  | _ => .bad
theorem c1_listK : C1ok c (rListK c.K.w) listKS := by
  intro Hf H vs rs Q i h o
  unfold listKS at o
  split at o
  · rename_i a
    cases h with
    | cons q b =>
      cases b
      split at o
      · rename_i ds e
        obtain ⟨p, ks, rfl, h1, h2⟩ := keysV_ok i q e
        exact ⟨p, ks, rfl, h1, fun l hl => GE.newL o i hl h2⟩
      · exact o.elim
  · exact o.elim
/-! ### sorted(d) -/
section
open PySem.W PySem.Calls
variable {prog : Program} {w : World} {A : Around} {E : Value → Shared → Prop} {s : Shared} {T : String} {r d : Addr} {n : Nat} {P : Nat → Value → Prop} {OK : Heap → Prop}
theorem collectK {R : List Value → Shared → Prop} (K : KdlSrc prog w T r d n P OK) (hh : A.handled = none) (hok : OK s.heap) (hn : n ≤ sizeLine)
    (h : ∀ (h' : Heap) (tk : Nat) (acc : Array Value), (∀ b o, s.heap.get? b = some o → h'.get? b = some o) → s.heap.objs.size < h'.objs.size → ItemsOf P acc n → R acc.toList { s with heap := h', toks := tk }) :
    wpAny (model prog w) A (collect (.ref r)) R E s := by
  have hlt := K.there _ hok
  unfold collect
  refine wpAny_bind (wpAny_runValue (codeAny_builtin entry_proto_collect' ?_))
  rw [Around.under_plainId PySem.F.plain_proto_collect _]
  show wpAny _ A.in1 (newList [] >>= fun l => again (.builtin "list.__iadd__" ⟨[l, .ref r], []⟩)) _ _ s
  refine wpAny_bind (wpAny_newObj_type ?_)
  refine wpAny_pure ⟨plainId_quiet PySem.F.plain_list_iadd _, codeAny_builtin entry_list_iadd' ?_⟩
  rw [Around.under_plainId PySem.F.plain_list_iadd _]
  have hS₁ : (s.heap.push { cls := .type "list", data := .seq ([] : List Value).toArray }).get? s.heap.objs.size = some { cls := .type "list", data := .seq #[] } := Heap.get?_push_size _ rfl
  show wpAny _ A.in1 (Builtin.List.listExtendWith (.ref s.heap.objs.size) (.ref r) (.ref s.heap.objs.size)) _ _ _
  have key := kdl_extend (prog := prog) (w := w) (A := A) (s := { s with heap := s.heap.push { cls := .type "list", data := .seq ([] : List Value).toArray } })
    (R := fun (q : Result) (s' : Shared) => ∃ (h' : Heap) (tk : Nat) (acc' : Array Value) (c' : Nat), q = .ok (.ret (.ref s.heap.objs.size)) ∧ s' = { s with heap := h', toks := tk } ∧
      (∀ b o, s.heap.get? b = some o → h'.get? b = some o) ∧ h'.get? s.heap.objs.size = some { cls := .type "list", dict := none, data := .seq acc' c', slots := #[] } ∧ ItemsOf P acc' n)
    K hh (K.keep _ _ hok fun b _ o e => Heap.get?_push_of_some _ e) s.heap.objs.size (Nat.ne_of_gt hlt.1) (Nat.ne_of_gt hlt.2) (.ref s.heap.objs.size) 0 hS₁
    (fun h' tk acc' c' hk hS' hacc => ⟨h', tk, acc', c', rfl, rfl, fun b o e => hk b o (Nat.ne_of_lt (Heap.lt_size e)) (Heap.get?_push_of_some _ e), hS', hacc⟩) hn
  refine wpAny_mono key (fun fin s' x => ?_) fun e s' x => ?_
  · cases fin with
    | done f =>
      obtain ⟨h', tk, acc', c', e, rfl, hk, hS', hacc⟩ := x
      cases e
      show wpAny _ A (load s.heap.objs.size >>= _) _ _ _
      refine wpAny_bind (wpAny_load hS' ?_)
      exact wpAny_pure (h h' tk acc' hk (Heap.lt_size hS') hacc)
    | again c₁ =>
      refine ⟨x.1, codeAny_mono x.2 fun q s₂ y => ?_⟩
      obtain ⟨h', tk, acc', c', rfl, rfl, hk, hS', hacc⟩ := y
      show wpAny _ A (load s.heap.objs.size >>= _) _ _ _
      refine wpAny_bind (wpAny_load hS' ?_)
      exact wpAny_pure (h h' tk acc' hk (Heap.lt_size hS') hacc)
  · obtain ⟨_, _, _, _, e', _⟩ := x
    cases e'
theorem sortedKd {Q : Value → Shared → Prop} (K : KdlSrc prog w T r d n P OK) (hh : A.handled = none) (hok : OK s.heap) (hn : n ≤ sizeLine)
    (h : ∀ (h' : Heap) (tk : Nat) (acc : Array Value), (∀ b o, s.heap.get? b = some o → h'.get? b = some o) → s.heap.objs.size < h'.objs.size → ItemsOf P acc n →
      wpAny (model prog w) A.in1 (call (.builtin "list.sort") [.ref h'.objs.size]) (fun _ s' => Q (.ref h'.objs.size) s') E { s with heap := h'.push { cls := .type "list", data := .seq acc.toList.toArray }, toks := tk }) :
    wpAny (model prog w) A (call (.builtin "sorted") [.ref r]) Q E s := by
  refine call_function_entry kind_sorted plain_sorted entry_sorted (args_sorted1 _) ?_
  unfold Builtin.«sorted»
  refine wpAny_bind (m := checkCount "sorted" 1 1 _) (wpAny_pure ?_)
  refine wpAny_bind (collectK (A := A.in1) K hh hok hn fun h' tk acc hk hlt hacc => ?_)
  refine wpAny_bind (wpAny_newList ?_ (by rw [Array.length_toList, hacc.1]; exact hn))
  have hg := h h' tk acc hk hlt hacc
  refine wpAny_bind (wpAny_holding (wpAny_mono hg (fun _ s' x => ?_) fun _ _ e => e))
  exact wpAny_pure ⟨_, rfl, x⟩
theorem sortD_list {β : Type} {vs : List Value} {bs : List β} {enc : β → PyData} {R : Value → β → Prop} {a : Addr} {n : Nat} {Q : Value → Shared → Prop} (ho : s.heap.get? a = some (seqObj "list" vs.toArray n)) (e : EachIs R vs bs) (er : EachIs (fun v b => ∃ as, Reads s.heap v (enc b) as ∧ a ∉ as) vs bs) (hal : AllAlike (bs.map enc)) (hk : Srt (bs.map enc)) (hL : bs.length ≤ sizeLine)
    (hu : ∀ b, b ∈ bs → A.units + 1 + (enc b).depth < cLine) (h : ∀ out, out.length = bs.length → EachIs R out (bs.mergeSort (dataLe false enc)) → Q .none { s with heap := sortedHeap s.heap a vs (List.toArray out) }) :
    wpAny (model prog w) A (call (.builtin "list.sort") [.ref a]) Q E s := by
  have er' : EachIs (fun v b => ∃ as, Reads (sortingHeap s.heap a vs) v (enc b) as) vs bs := each_keepBut (h' := sortingHeap s.heap a vs) (fun _ _ hb q => sortingHeap_old hb q) (fun o q => by rw [ho] at q; rw [← Option.some.inj q]) hal er
  refine wpAny_call_entry slot_list_sort ⟨_, ho, rfl⟩ entry_list_sort (list_sort_vals (κ := dataKind (sortingHeap s.heap a vs) (bs.map enc)) ho (sortsD (s := { s with heap := sortingHeap s.heap a vs }) (each_map (R := fun v d => ∃ as, Reads (sortingHeap s.heap a vs) v d as) enc er') hal hk (bound_map hu)) (by rw [e.length]; exact hL) ⟨.none, rfl, ?_⟩) (args_list_sort _)
  exact h _ (by rw [sortVals_length false rfl]; exact e.length) (sortVals_data false e er' hal)
end
mutual
def noL : D → Bool
  | .list _ => false
  | .tuple ds => noLs ds
  | .dict _ => false
  | .none => true
  | .bool _ => true
  | .int _ => true
  | .str _ => true
def noLs : List D → Bool
  | [] => true
  | d :: ds => noL d && noLs ds
end
mutual
theorem reads_noL {h : Heap} : ∀ (d : D) (v : Value) (as : List Addr), noL d = true → Reads h v d as → as = []
  | .none, _, _, _, r => by cases r; rfl
  | .bool _, _, _, _, r => by cases r; rfl
  | .int _, _, _, _, r => by cases r; rfl
  | .str _, _, _, _, r => by cases r; rfl
  | .list _, _, _, n, _ => by unfold noL at n; cases n
  | .dict _, _, _, n, _ => by unfold noL at n; cases n
  | .tuple ds, _, _, n, r => by
    unfold noL at n
    cases r with
    | tuple h1 h2 h3 h4 => exact reads_noLs ds _ _ n h4
theorem reads_noLs {h : Heap} : ∀ (ds : List D) (vs : List Value) (as : List Addr), noLs ds = true → ReadsAll h vs ds as → as = []
  | [], _, _, _, r => by cases r; rfl
  | d :: ds, _, _, n, r => by
    unfold noLs at n
    rw [Bool.and_eq_true] at n
    cases r with
    | cons h1 h2 => rw [reads_noL d _ _ n.1 h1, reads_noLs ds _ _ n.2 h2]; rfl
end
def rSortK (K : PySem.W.Frag) (w : World) : List V → Hp → VK → Prop := fun xs H Q => ∃ a ks ds, xs = [.ref a] ∧ KRow w H a ks ∧ DpAll K H ks ds ∧ noLs ds = true ∧ PySem.W.AllAlike ds ∧ Srt ds ∧ (∀ d ∈ ds, d.depth ≤ 60) ∧
  ∀ p, H p = none → Q (.ref p) (upd H p (.lst (sortV ks ds)))
theorem noLs_mem {d : D} : ∀ {ds : List D}, noLs ds = true → d ∈ ds → noL d = true
  | [], _, h => by cases h
  | e :: ds, n, h => by
    unfold noLs at n
    rw [Bool.and_eq_true] at n
    rcases List.mem_cons.mp h with rfl | h
    · exact n.1
    · exact noLs_mem n.2 h
theorem cb_sortK {X : Cx} (hc : X.calm = true) (hu : X.A.units + 65 < cLine) : CallR X (.builtin "sorted") (rSortK X.K X.w) := by
  intro pins s σ H xs us Q I r h
  obtain ⟨a, ks, ds, rfl, hr, hd, hnl, hal, hk, hdp, q⟩ := h
  obtain rfl := Vals.ref1 r
  obtain ⟨n, es, ep, dr, hs, hl, he⟩ := raw_keys I hr
  refine sortedKd (PySem.KdlSrc.rawDict (es := es) (ep := ep) n) (I.ok.hd hc) dr (by rw [hs]; exact hl) fun h' tk acc hkp hlt hacc => ?_
  have hv := items_vals hs he hacc
  have I1 : Inv X pins σ H { s with heap := h', toks := tk } := I.kept hkp
  obtain ⟨e1, e2⟩ := each_zip I1 hd hv
  have hds := zip_snd hd
  have hlen : (ks.zip ds).length = ds.length := by rw [← hds, List.length_map]; rw [hds]
  have hkl : ds.length = ks.length := (dpAll_len hd).symm
  have ho : (h'.push (seqObj "list" acc.toList.toArray 0)).get? h'.objs.size = some (seqObj "list" acc.toList.toArray 0) := Heap.get?_push_size _ rfl
  refine sortD_list (s := { s with heap := h'.push (seqObj "list" acc.toList.toArray 0), toks := tk }) (bs := ks.zip ds) (enc := Prod.snd) ho e1 ((PySem.W.each_mem e2).mono fun v b rd => ?_) (by rw [hds]; exact hal) (by rw [hds]; exact hk) (by rw [hlen, hkl]; exact hl) (fun b hb => ?_) fun out hout eo => ?_
  · obtain ⟨⟨as, rd⟩, hb⟩ := rd
    have hb' : b.2 ∈ ds := by rw [← hds]; exact List.mem_map_of_mem hb
    have ea := reads_noL _ _ _ (noLs_mem hnl hb') rd
    subst ea
    exact ⟨[], PyProof.Rows.Reads.keeps (fun _ _ e => Heap.get?_push_of_some _ e) rd, fun z => nomatch z⟩
  · have : b.2 ∈ ds := by rw [← hds]; exact List.mem_map_of_mem hb
    have := hdp _ this
    show X.A.units + 1 + 1 + _ < cLine
    omega
  · obtain ⟨ep', he'⟩ := PyProof.Rows.sortedHeap_at (out := out.toArray) ho
    have hv2 := each_vals eo
    have hl2 : (sortV ks ds).length ≤ sizeLine := by
      have := hv2.length
      unfold sortV
      rw [this, hout, hlen, hkl]; exact hl
    refine ⟨.ref h'.objs.size, upd H h'.objs.size (.lst (sortV ks ds)), I.laid (t' := tk) (fun b u e => ?_) (Nat.le_of_lt hlt) ⟨hl2, out, ep', hv2, he'⟩, rfl, q _ (I.hok.fresh (Nat.le_of_lt hlt))⟩
    have e1 := hkp _ _ e
    have hlt' := Heap.lt_size e1
    exact (PyProof.Rows.sortedHeap_old (Nat.ne_of_lt hlt') (by rw [PyProof.Rows.size_push']; exact Nat.lt_succ_of_lt hlt')).trans (Heap.get?_push_of_some _ e1)
def sortKS : List SV → R SV
  | [a] => (match keysV a with
    | some ds => if noLs ds = true ∧ allAlike ds = true ∧ sortable ds = true ∧ (ds.all fun d => decide (d.depth ≤ 60)) = true then .ok (.ol (sortD ds)) else .bad
    | none => .bad)
  | _ => .bad
theorem c1_sortK : C1ok c (rSortK c.K c.K.w) sortKS := by
  intro Hf H vs rs Q i h o
  unfold sortKS at o
  split at o
  · rename_i a
    cases h with
    | cons q b =>
      cases b
      split at o
      · rename_i ds e
        split at o
        · rename_i hc
          obtain ⟨p, ks, rfl, h1, h2⟩ := keysV_ok i q e
          exact ⟨p, ks, ds, rfl, h1, dpAll_mono i h2, hc.1, allAlike_of hc.2.1, sortable_of hc.2.2.1, fun d hd => of_decide_eq_true (List.all_eq_true.mp hc.2.2.2 d hd), fun l hl => GE.newL o i hl (sort_dp h2)⟩
        · exact o.elim
      · exact o.elim
  · exact o.elim
end
end Pl
/-! PlF: len(d); < of alike data; defs whose arguments may be shared dicts or instances (spG). -/
namespace Pl
open PySem PySem.Spec PyProof.Rows L2
section
variable {c : Ct}
/-! ### len(d) -/
def rLenK (w : World) : List V → Hp → VK → Prop := fun xs H Q => ∃ a ks, xs = [.ref a] ∧ KRow w H a ks ∧ Q (.int ks.length) H
theorem cb_lenK {X : Cx} : CallR X (.builtin "len") (rLenK X.w) := by
  intro pins s σ H xs us Q I r h
  obtain ⟨a, ks, rfl, hr, q⟩ := h
  obtain rfl := Vals.ref1 r
  obtain ⟨n, es, ep, dr, hs, hl, he⟩ := raw_keys I hr
  rw [sizeLine_eq] at hl
  refine PyProof.Rows.call_len_slot (n := ks.length) dr.typeIs PySem.F.slot_dict_len (fun Q' hq => PySem.call_len_raw n dr (by rw [hs]; exact hq)) (by omega) (by omega) ?_
  exact ⟨.int ks.length, H, I.tok _, ⟨_, rfl⟩, q⟩
def lenKS : List SV → R SV
  | [a] => (match keysV a with
    | some ds => .ok (.d (.int ds.length))
    | none => .bad)
  | _ => .bad
theorem c1_lenK : C1ok c (rLenK c.K.w) lenKS := by
  intro Hf H vs rs Q i h o
  unfold lenKS at o
  split at o
  · rename_i a
    cases h with
    | cons q b =>
      cases b
      split at o
      · rename_i ds e
        obtain ⟨p, ks, rfl, h1, h2⟩ := keysV_ok i q e
        refine ⟨p, ks, rfl, h1, ?_⟩
        rw [dpAll_len h2]
        exact GE.now o i (.int _)
      · exact o.elim
  · exact o.elim
/-! ### < of alike data -/
def ltOk (d e : D) : Bool := PySem.W.alike d e && !isN d && decide (d.depth ≤ 60)
def rLtD (K : PySem.W.Frag) : R2 := fun x y H Q => ∃ d e, Dp K H x d ∧ Dp K H y e ∧ ltOk d e = true ∧ Q (.bl (PySem.W.dataLt d e)) H
theorem op_ltD {X : Cx} (hu : X.A.units + 65 < cLine) : OpR X (compareOp .Lt) (rLtD X.K) := by
  intro pins s σ H x y v u Q I rx ry h
  obtain ⟨d, e, hd, he, ok, q⟩ := h
  unfold ltOk at ok
  rw [Bool.and_eq_true, Bool.and_eq_true] at ok
  obtain ⟨as, r1⟩ := Dp.reads I d x v hd rx
  obtain ⟨bs, r2⟩ := Dp.reads I e y u he ry
  have hdp := of_decide_eq_true ok.2
  refine PySem.W.rcLt_alike d e X.A s v u as bs r1 r2 ok.1.1 (fun z => ?_) ?_ X.prog X.w _ _ ⟨.bl _, H, I, rfl, q⟩
  · subst z; simp [isN] at ok
  · have := Nat.min_le_left d.depth e.depth
    omega
def ltG (a b : SV) : R SV := datS a >>= fun x => datS b >>= fun y => if ltOk x y = true then .ok (.d (.bool (PySem.W.dataLt x y))) else .bad
theorem r2_ltG : R2ok c (rLtD c.K) ltG := by
  intro Hf H x y rx ry Q i hx hy o
  unfold ltG at o
  cases e1 : datS rx with
  | ok d =>
    cases e2 : datS ry with
    | ok e =>
      simp only [e1, e2, ok_bind] at o
      split at o
      · rename_i h; exact ⟨d, e, looked (c := c) i hx e1, looked (c := c) i hy e2, h, GE.now o i (.bl _)⟩
      · exact o.elim
    | ex n as => cases ry <;> cases e2
    | bad => simp only [e1, e2, ok_bind, bad_bind] at o; exact o.elim
  | ex n as => cases rx <;> cases e1
  | bad => simp only [e1, bad_bind] at o; exact o.elim
/-! ### arguments that may be shared dicts or instances -/
def isShr : SV → Bool
  | .d _ => true
  | .sk _ => true
  | .sd _ => true
  | .so _ _ => true
  | _ => false
def shrS : SV → R SV
  | .d x => .ok (.d x)
  | .ol xs => .ok (.d (.list xs))
  | .kd xs => .ok (.sk xs)
  | .od xs => .ok (.sd xs)
  | .oi C xs => .ok (.so C xs)
  | .sk xs => .ok (.sk xs)
  | .sd xs => .ok (.sd xs)
  | .so C xs => .ok (.so C xs)
  | _ => .bad
theorem shr_ext {Hf H Hf' H' : Hp} {p : Addr} {o : HO} (x : Ext Hf H Hf' H') (h1 : H' p = some o) (h2 : Hf' p = none) (fr : H p = none) : Ext Hf H (upd Hf' p o) H' :=
  ⟨x.f.trans (upd_grow h2), x.h, fun b o' e => by
    by_cases hb : b = p
    · subst hb; rw [upd_same] at e; cases e; exact h1
    · rw [upd_ne hb] at e; exact x.i _ _ e, fun b e => by
    by_cases hb : b = p
    · subst hb; exact .inr fr
    · rw [upd_ne hb] at e; exact x.n b e⟩
theorem frozeG {Hf H Hf' H' : Hp} {v : V} {r r' : SV} (x : Ext Hf H Hf' H') (q : RepR c.K Hf' H' v r) (fr : r.own = true → ∀ p, v = .ref p → H p = none) (e : shrS r = .ok r') :
    ∃ Hf2, Ext Hf H Hf2 H' ∧ RepR c.K Hf2 H' v r' ∧ isShr r' = true := by
  cases r with
  | d y => cases e; exact ⟨Hf', x, q, rfl⟩
  | sk y => cases e; exact ⟨Hf', x, q, rfl⟩
  | sd y => cases e; exact ⟨Hf', x, q, rfl⟩
  | so C y => cases e; exact ⟨Hf', x, q, rfl⟩
  | ol xs =>
    cases e
    obtain ⟨p, vs, rfl, h1, h2, h3⟩ := q
    exact ⟨_, shr_ext x h1 h2 (fr rfl _ rfl), (show Dp c.K.k _ _ _ from .lst (.inl (.inl upd_same)) (dpAll_mono (upd_grow h2) h3)), rfl⟩
  | kd xs =>
    cases e
    obtain ⟨p, ep, vs, rfl, h1, h2, h3⟩ := q
    exact ⟨_, shr_ext x h1 h2 (fr rfl _ rfl), ⟨p, ep, vs, rfl, upd_same, kdr_mono (upd_grow h2) h3⟩, rfl⟩
  | od xs =>
    cases e
    obtain ⟨p, vs, rfl, h1, h2, h3⟩ := q
    exact ⟨_, shr_ext x h1 h2 (fr rfl _ rfl), ⟨p, vs, rfl, upd_same, dkv_mono (upd_grow h2) h3⟩, rfl⟩
  | oi C xs =>
    cases e
    obtain ⟨p, dx, vs, rfl, h1, h2, h3⟩ := q
    exact ⟨_, shr_ext x h1 h2 (fr rfl _ rfl), ⟨p, dx, vs, rfl, upd_same, fsr_mono (upd_grow h2) h3⟩, rfl⟩
  | pin xs => cases e
  | exn n as => cases e
  | pd xs => cases e
/-- lent: the whole heap is shared for the while -/
def lendS : SV → R SV
  | .pin xs => .ok (.d (.list xs))
  | r => shrS r
theorem lend_ok {Hf H : Hp} {v : V} {r r' : SV} (i : Same Hf H) (q : RepR c.K Hf H v r) (e : lendS r = .ok r') : RepR c.K H H v r' ∧ isShr r' = true := by
  cases r with
  | d y => cases e; exact ⟨(show Dp c.K.k H v y from dp_mono i q), rfl⟩
  | sk y => cases e; obtain ⟨p, ep, vs, rfl, h1, h3⟩ := q; exact ⟨⟨p, ep, vs, rfl, i _ _ h1, kdr_mono i h3⟩, rfl⟩
  | sd y => cases e; obtain ⟨p, vs, rfl, h1, h3⟩ := q; exact ⟨⟨p, vs, rfl, i _ _ h1, dkv_mono i h3⟩, rfl⟩
  | so C y => cases e; obtain ⟨p, dx, vs, rfl, h1, h3⟩ := q; exact ⟨⟨p, dx, vs, rfl, i _ _ h1, fsr_mono i h3⟩, rfl⟩
  | ol xs => cases e; obtain ⟨p, vs, rfl, h1, h2, h3⟩ := q; exact ⟨(show Dp c.K.k H _ _ from .lst (.inl (.inl h1)) (dpAll_mono i h3)), rfl⟩
  | pin xs => cases e; obtain ⟨p, vs, rfl, h1, h2, h3⟩ := q; exact ⟨(show Dp c.K.k H _ _ from .lst (.inl (.inl h1)) (dpAll_mono i h3)), rfl⟩
  | kd xs => cases e; obtain ⟨p, ep, vs, rfl, h1, h2, h3⟩ := q; exact ⟨⟨p, ep, vs, rfl, h1, kdr_mono i h3⟩, rfl⟩
  | od xs => cases e; obtain ⟨p, vs, rfl, h1, h2, h3⟩ := q; exact ⟨⟨p, vs, rfl, h1, dkv_mono i h3⟩, rfl⟩
  | oi C xs => cases e; obtain ⟨p, dx, vs, rfl, h1, h2, h3⟩ := q; exact ⟨⟨p, dx, vs, rfl, h1, fsr_mono i h3⟩, rfl⟩
  | exn n as => cases e
  | pd xs => cases e
def GG (c : Ct) (Hf H : Hp) (Q : List V → Hp → Prop) (rs : List SV) : Prop := ∀ vs Hf' H', Ext Hf H Hf' H' → RepRs c.K Hf' H' vs rs → (∀ r ∈ rs, isShr r = true) → Q vs H'
def SemG' (c : Ct) (t : TA) (f : En → R (List SV)) : Prop := ∀ B H0 Hf H σ ρ Q, EnvOk c.K B H0 Hf H σ ρ → Out c Hf H (f ρ) (GG c Hf H Q) → t σ H Q
theorem out_shr {α : Type} {Hf H : Hp} {a : SV} {k : SV → R α} {G : α → Prop} (o : Out c Hf H (shrS a >>= k) G) : ∃ d, shrS a = .ok d ∧ Out c Hf H (k d) G := by
  cases e : shrS a with
  | ok b => rw [e] at o; exact ⟨b, rfl, o⟩
  | bad => rw [e] at o; exact o.elim
  | ex n as => cases a <;> cases e
def nilG : En → R (List SV) := fun _ => .ok []
def conG (f : En → R SV) (g : En → R (List SV)) : En → R (List SV) := fun ρ => f ρ >>= fun a => shrS a >>= fun d => g ρ >>= fun ds => .ok (d :: ds)
theorem sem_nilG : SemG' c tNil nilG := fun B H0 Hf H σ ρ Q I o => o [] Hf H (.refl I.i) .nil fun _ h => nomatch h
theorem sem_conG {te : TE} {t : TA} {f : En → R SV} {g : En → R (List SV)} (h : SemE c true te f) (h' : SemG' c t g) : SemG' c (tCons te t) (conG f g) := by
  intro B H0 Hf H σ ρ Q I o
  refine h B H0 Hf H σ ρ _ I (Out.bind o fun a ea o1 => fun v Hf1 H1 x1 q1 fr => ?_)
  obtain ⟨d, e, o2⟩ := out_shr o1
  obtain ⟨Hf2, x2, q2, sh⟩ := frozeG x1 q1 (fr rfl) e
  refine h' B H0 Hf2 H1 σ ρ _ (I.grow x2) (Out.bind (o2.grow x2 fun _ z => z) fun ds eds o3 => fun vs Hf3 H3 x3 q3 s3 => ?_)
  exact (show GG c Hf H Q (d :: ds) from o3) (v :: vs) Hf3 H3 (x2.trans x3) (.cons (q2.grow x3) q3) fun r hr => by
    rcases List.mem_cons.mp hr with rfl | hr
    · exact sh
    · exact s3 r hr
def spG (w : World) (K : PySem.W.Frag) (cm : Nat → Addr × List Str) (n : Nat) (g : List SV → R SV) : Sp := fun vs H Q E => vs.length = n ∧ ∃ (ex : Exi) (Hf : Hp) (rs : List SV), Same Hf H ∧ RepRs ⟨K, ex, w⟩ Hf H vs rs ∧ (∀ r ∈ rs, isShr r = true) ∧
  Out ⟨⟨K, ex, w⟩, cm, E⟩ Hf H (g rs) (GE ⟨⟨K, ex, w⟩, cm, E⟩ true Hf H Q)
theorem repRs_len {K : Kx} {Hf H : Hp} : ∀ {vs : List V} {rs : List SV}, RepRs K Hf H vs rs → vs.length = rs.length
  | _, _, .nil => rfl
  | _, _, .cons _ b => by simp [repRs_len b]
def callG (n : Nat) (g : List SV → R SV) (f : En → R (List SV)) : En → R SV := fun ρ => f ρ >>= fun ds => if ds.length = n then g ds else .bad
theorem sem_callG {n : Nat} {g : List SV → R SV} {t : TA} {f : En → R (List SV)} (h : SemG' c t f) : SemE c true (tCall (spG c.K.w c.K c.cm n g) [] c.E t) (callG n g f) := by
  intro B H0 Hf H σ ρ Q I o
  refine h B H0 Hf H σ ρ _ I (Out.bind o fun ds eds o1 => fun vs Hf1 H1 x1 q1 sh => ?_)
  split at o1
  · rename_i hl
    rw [List.append_nil]
    exact ⟨by rw [repRs_len q1]; exact hl, c.K.x, Hf1, ds, x1.i, q1, sh, o1.grow x1 fun _ g => g.grow x1⟩
  · exact o1.elim
def lendsS : List SV → R (List SV)
  | [] => .ok []
  | a :: r => lendS a >>= fun d => lendsS r >>= fun ds => .ok (d :: ds)
theorem lendsS_ok {Hf H : Hp} (i : Same Hf H) : ∀ {vs : List V} {rs ds : List SV}, RepRs c.K Hf H vs rs → lendsS rs = .ok ds → RepRs c.K H H vs ds ∧ ∀ r ∈ ds, isShr r = true
  | _, _, _, .nil, e => by cases e; exact ⟨.nil, fun _ h => nomatch h⟩
  | _, _, _, .cons (r := r) (rs := rs) a b, e => by
    unfold lendsS at e
    cases e1 : lendS r with
    | ok d =>
      rw [e1, ok_bind] at e
      cases e2 : lendsS rs with
      | ok ds' =>
        rw [e2, ok_bind] at e
        cases e
        obtain ⟨a1, a2⟩ := lend_ok i a e1
        obtain ⟨b1, b2⟩ := lendsS_ok i b e2
        exact ⟨.cons a1 b1, fun z hz => by
          rcases List.mem_cons.mp hz with rfl | hz
          · exact a2
          · exact b2 z hz⟩
      | bad => rw [e2] at e; cases e
      | ex n as => rw [e2] at e; cases e
    | bad => rw [e1] at e; cases e
    | ex n as => rw [e1] at e; cases e
/-- a call that is only lent what it is handed: its answer is a scalar -/
def callGP (n : Nat) (g : List SV → R SV) (f : En → R (List SV)) : En → R SV := fun ρ => f ρ >>= fun rs => match lendsS rs with
  | .ok ds => if ds.length = n then (match g ds with
      | .ok r => if scalS r = true then .ok r else .bad
      | _ => .bad) else .bad
  | _ => .bad
theorem sem_callGP {n : Nat} {g : List SV → R SV} {t : TA} {f : En → R (List SV)} (h : SemB c t f) : SemE c true (tCall (spG c.K.w c.K c.cm n g) [] c.E t) (callGP n g f) := by
  intro B H0 Hf H σ ρ Q I o
  refine h B H0 Hf H σ ρ _ I (Out.bind o fun rs ers o1 => fun vs Hf1 H1 x1 q1 => ?_)
  cases e1 : lendsS rs with
  | bad => simp only [e1] at o1; exact o1.elim
  | ex n as => simp only [e1] at o1; exact o1.elim
  | ok ds =>
    simp only [e1] at o1
    obtain ⟨q2, sh⟩ := lendsS_ok (c := c) x1.i q1 e1
    split at o1
    · rename_i hl
      rw [List.append_nil]
      refine ⟨by rw [repRs_len q2]; exact hl, c.K.x, H1, ds, .refl _, q2, sh, ?_⟩
      cases e2 : g ds with
      | bad => simp only [e2] at o1; exact o1.elim
      | ex n as => simp only [e2] at o1; exact o1.elim
      | ok r =>
        simp only [e2] at o1
        split at o1
        · rename_i hs
          intro v Hf2 H2 x2 q3 _
          cases r with
          | d x => exact GE.now (GE.grow (show GE c true Hf H Q _ from o1) ⟨x1.f, x1.h.trans x2.h, x1.i.trans x2.h, fun p e => (x1.n p e)⟩) (x1.i.trans x2.h) (flat_any q3 hs)
          | _ => cases hs
        · exact o1.elim
    · exact o1.elim
end
def startG (N : Nat) (rs : List SV) : En := (rs.map some) ++ List.replicate (N - rs.length) none
def runG (n N : Nat) (f : En → R Fl) (rs : List SV) : R SV := if rs.length = n then f (startG N rs) >>= fun fl => match fl with
  | .rt r => .ok r
  | .nx _ => .ok (.d .none)
  | _ => .bad else .bad
theorem repRs_get {K : Kx} {Hf H : Hp} : ∀ {vs : List V} {rs : List SV} {i : Nat} {r : SV}, RepRs K Hf H vs rs → rs[i]? = some r → ∃ v, vs[i]? = some v ∧ RepR K Hf H v r
  | _, _, _, _, .nil, e => by simp at e
  | _, _, 0, _, .cons a _, e => by simp at e; subst e; exact ⟨_, rfl, a⟩
  | _, _, i + 1, _, .cons _ b, e => by
    obtain ⟨v, h1, h2⟩ := repRs_get (i := i) b (by simpa using e)
    exact ⟨v, by simpa using h1, h2⟩
theorem start_okG {K : Kx} {Hf H : Hp} {N : List Str} {vs : List V} {rs : List SV} (i : Same Hf H) (h : RepRs K Hf H vs rs) (sh : ∀ r ∈ rs, isShr r = true) : EnvOk K ⟨Hf, fun _ => .non⟩ H Hf H (L2.start N vs) (startG N.length rs) := by
  have hl := repRs_len h
  have at_ : ∀ {j : Nat} {s : SV}, (startG N.length rs)[j]? = some (some s) → rs[j]? = some s := by
    intro j s e
    unfold startG at e
    rcases Nat.lt_or_ge j rs.length with z | z
    · rw [List.getElem?_append_left (by simpa using z), List.getElem?_map, List.getElem?_eq_getElem z] at e
      cases e
      exact List.getElem?_eq_getElem z
    · rw [List.getElem?_append_right (by simpa using z), List.getElem?_replicate] at e
      split at e <;> cases e
  have nown : ∀ {j : Nat} {s : SV}, (startG N.length rs)[j]? = some (some s) → s.own = false ∧ ∀ ys, s ≠ .pin ys := by
    intro j s e
    have := sh s (List.mem_of_getElem? (at_ e))
    cases s <;> first | (cases this; done) | exact ⟨rfl, fun _ z => by cases z⟩
  refine ⟨.refl i, by unfold L2.start startG; simp [hl], fun j s e => ?_, fun j s p e o => ?_, fun j k sj sk p ej oj => ?_, fun j xs e => ?_⟩
  · obtain ⟨v, hv, q⟩ := repRs_get h (at_ e)
    refine ⟨v, ?_, q⟩
    unfold L2.start
    have hj : j < vs.length := (List.getElem?_eq_some_iff.mp hv).1
    rw [List.getElem?_append_left (by simpa using hj), List.getElem?_map, hv] <;> rfl
  · rw [(nown e).1] at o; cases o
  · rw [(nown ej).1] at oj; cases oj
  · exact ((nown e).2 xs rfl).elim
theorem body_okG {w : World} {K : PySem.W.Frag} {cm : Nat → Addr × List Str} {E : XK} {N ps : List Str} {t : TS} {f : En → R Fl} {vs : List V} {H : Hp} {Q : VK} (h : ∀ ex : Exi, SemS ⟨⟨K, ex, w⟩, cm, E⟩ t f) (hsp : spG w K cm ps.length (runG ps.length N.length f) vs H Q E) :
    t { nx := fun _ H' => Q .non H', rt := Q } (L2.start N vs) H := by
  obtain ⟨hl, ex, Hf, rs, i, q, sh, o⟩ := hsp
  have I := start_okG (K := ⟨K, ex, w⟩) (N := N) i q sh
  unfold runG at o
  rw [if_pos (by rw [← repRs_len q]; exact hl)] at o
  refine h ex ⟨Hf, fun _ => .non⟩ H Hf H _ _ _ I (Out.bind o fun fl efl o1 => ?_)
  cases fl with
  | nx ρ => exact fun Hf2 H2 σ2 I2 => (show GE ⟨⟨K, ex, w⟩, cm, E⟩ true Hf H Q (.d .none) from o1) .non Hf2 H2 I2.ext .non fun _ z => nomatch z
  | rt r => exact fun v Hf2 H2 x q fr => (show GE ⟨⟨K, ex, w⟩, cm, E⟩ true Hf H Q r from o1) v Hf2 H2 x q fun _ => fr
  | bk ρ => exact o1.elim
  | ct ρ => exact o1.elim
section
variable {P : Program} {w : World} {K : PySem.W.Frag} {mg : Str → Option Value} {base : Heap}
theorem mk_okG {x qual : Str} {st : Stmt} {f : Addr} {fd : FuncData} {N ps : List Str} {k : Nat} {cm : Nat → Addr × List Str} {b : En → R Fl} (F : Fun K x qual st f fd) (S : FnScope N ps (defScope st))
    (hb : ∀ (cdv : Value) (A : Around) (outer : List Env) (s : Shared) (H : Hp) (E : XK), Room k (A.deeper (envOfC qual (defScope st) s.heap.objs.size f cdv)) →
      ∃ t, PSs (cxOf CX0 P w K mg base N qual (defScope st) f cdv A outer s H E).nox (defBody st) t ∧ ∀ ex : Exi, SemS ⟨⟨K, ex, w⟩, cm, E⟩ t b) :
    FnOk P w K mg base CX0 (k + 1) f fd ps (spG w K cm ps.length (runG ps.length N.length b)) := by
  refine F.ok S (fun vs H Q E h => h.1) fun cdv A outer s H vs Q E hr h => ?_
  obtain ⟨t, h1, h2⟩ := hb cdv A outer s H E hr
  exact ⟨t, h1, body_okG (ps := ps) h2 h⟩
end
end Pl
/-! PlG: own exceptions with one field: raise C(e), n.f in a suite, isinstance of such an error. -/
namespace L2
open PySem PySem.Spec PyProof.Rows
/-- isinstance(e, c), e the exception that the suite holds, of a class with a field -/
def rIsY (K : PySem.W.Frag) (cls : Value) (d : Option Addr) (a : Addr) : List V → Hp → VK → Prop := fun xs H Q => ∃ (D dd : Addr) (kvs : List (Str × V)) (c : V) (cv : Value) (b : Bool), cls = .ref D ∧ d = some dd ∧ H dd = some (.xd kvs) ∧ ExcC K D ∧ xs = [.ref a, c] ∧ (∀ u, RelV c u → u = cv) ∧ PySem.W.kitOne K (.ref D) cv = some b ∧ Q (.bl b) H
theorem call_isY {X : Cx} {a : Addr} {cls : Value} {d : Option Addr} {oe : Obj} {pn : List (Addr × Obj)} (hz : Zc cls d oe) (hf : ∃ vs, oe.data = .fields vs) : CallR (X.suite a ((a, oe) :: pn)) (.builtin "isinstance") (rIsY X.K cls d a) := by
  intro pins s σ H xs us Q I r h
  obtain ⟨D, dd, kvs, c, cv, b, rfl, rfl, hk, C, rfl, hcv, e, q⟩ := h
  cases r with
  | cons rx rr =>
    cases rr with
    | cons rt rr =>
      cases rr
      cases rx
      have ec := hcv _ rt
      subst ec
      obtain ⟨hget, _⟩ := I.pin (a, oe) (List.mem_append.mpr (.inl List.mem_cons_self))
      obtain ⟨vs, hv⟩ := hf
      obtain ⟨mA, hns, _⟩ : ObjOk X.prog X.w H s.heap dd (.xd kvs) := I.hok dd _ hk
      obtain ⟨od, ho, _⟩ := lookIn_ns hns
      have J : PySem.W.InstAt s.heap a oe D (some od) := ⟨hget, hz.1, by unfold PySem.W.notCls; rw [hv] <;> rfl, by rw [hz.2]; exact ho⟩
      exact PySem.W.kia_one (PySem.W.kitx_exc (by obtain ⟨cdD, hcD, _⟩ := PySem.W.any_some C.hd; rw [hcD]; rfl) C.hg C.hk C.hs C.ha C.hn C.ht C.hm) I.kIn J e (fun z => nomatch z) fun tk => ⟨.bl b, H, I.kept (t' := tk) fun _ _ z => z, rfl, q⟩
end L2
namespace Pl
open PySem PySem.Spec PyProof.Rows L2
/-! ### raise C(e) -/
def tMk1 (f : Str) (C : Addr) (ta : TA) : L2.St → Hp → XK → Prop := fun σ H Q => ta σ H fun vs H1 => ∃ v, vs = [v] ∧ ∀ d, H1 d = none → Q (.ref C) (some d) (upd H1 d (.xd [(f, v)]))
section
variable {c : Ct}
def raiseA (n : Nat) (f : En → R (List D)) : En → R Fl := fun ρ => f ρ >>= fun ds => if ds.length = 1 then .ex n ds else .bad
theorem sem_raiseA {n : Nat} {C : Addr} {x : Str} {t : TA} {f : En → R (List D)} (hC : c.cm n = (C, [x])) (h : SemA c t f) : SemS c (fun _ σ H => tMk1 x C t σ H fun cls d H' => c.E cls d H') (raiseA n f) := by
  intro B H0 Hf H σ ρ Dn I o
  refine h B H0 Hf H σ ρ _ I ((Out.bind o fun ds eds o1 => ?_ : Out c B H0 (f ρ) (GA c Hf H fun vs H1 => ∃ v, vs = [v] ∧ ∀ d, H1 d = none → c.E (.ref C) (some d) (upd H1 d (.xd [(x, v)])))).here I.ext)
  intro vs Hf1 H1 x1 q1
  split at o1
  · rename_i hl
    cases q1 with
    | nil => cases hl
    | @cons v vs d ds qv qr =>
      cases qr with
      | cons _ _ => cases hl
      | nil =>
        refine ⟨v, rfl, fun p hp => ?_⟩
        have z := (show ExW c B.h H0 n [d] from o1) Hf1 (upd H1 p (.xd [(x, v)])) (some p) ((I.ext.trans x1).trans (Ext.fresh x1.i hp)) ⟨by rw [hC]; exact List.cons_ne_nil _ _, [v], by rw [hC]; exact upd_same, by rw [hC]; rfl, .cons qv .nil⟩
        rw [hC] at z
        exact z
  · exact o1.elim
/-! ### n.f, n the error that the suite holds -/
def tFld1 (f : Str) (C : Addr) (a : Addr) (cls : Value) (d : Option Addr) (te : TE) : TE := fun σ H Q => te σ H fun x H1 => x = .ref a ∧ cls = .ref C ∧ ∃ (dd : Addr) (v : V), d = some dd ∧ H1 dd = some (.xd [(f, v)]) ∧ Q v H1
/-- field 0 of the held error -/
def excF (i : Nat) : En → R SV := fun ρ => match ρ[i]? with
  | some (some (.exn _ [x])) => .ok (.d x)
  | _ => .bad
theorem sem_excF {i n : Nat} {a : Addr} {od : Option Addr} {C : Addr} {x : Str} {bl : Bool} (hC : c.cm n = (C, [x])) : SemE (exiOf c n a od) bl (tFld1 x C a (.ref (c.cm n).1) od (tVar i)) (excF i) := by
  intro B H0 Hf H σ ρ Q I o
  unfold excF at o
  split at o
  rotate_left
  · exact o.elim
  rename_i m d e
  obtain ⟨v, h1, h2, h3, h4⟩ := I.sl i _ e
  cases od with
  | none => exact absurd (show [d] = [] from h4) (fun z => nomatch z)
  | some dd =>
    obtain ⟨vs, k1, k2, k3⟩ := (show ∃ vs, H dd = some (.xd ((c.cm n).2.zip vs)) ∧ (c.cm n).2.length = vs.length ∧ DpAll c.K.k Hf vs [d] from h4)
    rw [hC] at k1 k2
    cases k3 with
    | cons k3 kr =>
      cases kr
      rename_i u
      refine ⟨v, h1, h3, by rw [hC], dd, u, rfl, k1, ?_⟩
      exact o u Hf H (.refl I.i) k3 fun _ ho => nomatch ho
/-! ### isinstance of it -/
def tIsY (K : PySem.W.Frag) (i : Nat) (C a : Addr) (cls : Value) (d : Option Addr) : TE := tCB (rIsY K cls d a) (tCons (tVar i) (tCons (tC (.ref C)) tNil))
def isY (i : Nat) (f : Nat → Bool) : En → R SV := fun ρ => match ρ[i]? with
  | some (some (.exn n [_])) => .ok (.d (.bool (f n)))
  | _ => .bad
theorem sem_isY {i n : Nat} {a : Addr} {od : Option Addr} {C D0 : Addr} {x : Str} {f : Nat → Bool} {bl : Bool} (hC : c.cm n = (D0, [x])) (hx : ExcC c.K.k (c.cm n).1) (hk : PySem.W.kitOne c.K.k (.ref (c.cm n).1) (.ref C) = some (f n)) :
    SemE (exiOf c n a od) bl (tIsY c.K.k i C a (.ref (c.cm n).1) od) (isY i f) := by
  intro B H0 Hf H σ ρ Q I o
  unfold isY at o
  split at o
  rotate_left
  · exact o.elim
  rename_i m d e
  obtain ⟨v, h1, h2, h3, h4⟩ := I.sl i _ e
  have h2' : m = n := h2
  subst h2'
  cases od with
  | none => exact absurd (show [d] = [] from h4) (fun z => nomatch z)
  | some dd =>
    obtain ⟨vs, k1, k2, k3⟩ := (show ∃ vs, H dd = some (.xd ((c.cm m).2.zip vs)) ∧ (c.cm m).2.length = vs.length ∧ DpAll c.K.k Hf vs [d] from h4)
    refine ⟨v, h1, (c.cm m).1, dd, _, .ref C, .ref C, f m, rfl, rfl, k1, hx, by rw [h3], fun u r => ?_, hk, ?_⟩
    · cases r; rfl
    · exact GE.now o I.i (.bl _)
theorem pe_isY {X : Cx} {a : Addr} {cls : Value} {d : Option Addr} {oe : Obj} {pn : List (Addr × Obj)} {i : Nat} {x : Str} {C : Addr} {p p1 p2 p3 : Pos} {y : Str} (hz : Zc cls d oe) (hf : ∃ vs, oe.data = .fields vs) (hg : Gl X "isinstance") (hm : X.mg "isinstance" = none)
    (hv : bootBuiltins "isinstance" = some (.builtin "isinstance")) (ha : PA (X.suite a ((a, oe) :: pn)) [.Name y p3, .Name x p1] (tCons (tVar i) (tCons (tC (.ref C)) tNil))) : PE (X.suite a ((a, oe) :: pn)) (.Call (.Name "isinstance" p) [.Name y p3, .Name x p1] [] p2) (tIsY X.K i C a cls d) :=
  pe_callB (X := X.suite a ((a, oe) :: pn)) (call_isY hz hf) hg hm hv ha
/-- not x in a suite -/
theorem pe_notTS {X : Cx} {a : Addr} {pn : List (Addr × Obj)} {e : Expr} {ta : TE} {pos : Pos} (h : PE (X.suite a pn) e ta) : PE (X.suite a pn) (.UnaryOp .Not e pos) (tNotT X.K ta) := pe_notT h
theorem o_eqS {X : Cx} {a : Addr} {pn : List (Addr × Obj)} (hu : X.A.units + 64 < cLine) : OpR (X.suite a pn) (compareOp .Eq) (rEqA X.K) := o_eq (X := X.suite a pn) hu
theorem o_neS {X : Cx} {a : Addr} {pn : List (Addr × Obj)} (hu : X.A.units + 64 < cLine) : OpR (X.suite a pn) (compareOp .NotEq) (rNeA X.K) := o_ne (X := X.suite a pn) hu
end
end Pl
/-! PlH: expressions that write an own dict: d.setdefault(k, v) inside a comprehension. -/
namespace Pl
open PySem PySem.Spec PyProof.Rows L2
/-! ### the hand rule -/
section
variable {X : Cx} {pins : List (Addr × Obj)} {σ : L2.St} {H : Hp} {s : Shared} {a b : Addr} {k : NestedKey} {xs : KX} {v : V} {u r : Value} {A : Around} {E : Value → Shared → Prop}
theorem kd_setd {y : V} {Q : Value → Shared → Prop} (hu : A.units + 65 < cLine) (I : Inv X pins σ H s) (g : KD X.K X.w H a xs) (hk : KeyH X.K H k b) (hl : xs.length < sizeLine) (rd : RelV y r)
    (h1 : ∀ v, valX xs k = some v → ∀ (w' : Value) (s' : Shared), Inv X pins σ H s' → RelV v w' → Q w' s')
    (h2 : valX xs k = none → ∀ ep (s' : Shared), Inv X pins σ (upd H a (kdx X.w a ep (putX xs k b y))) s' → Q r s') :
    wpAny (model X.prog X.w) A (call (.builtin "dict.setdefault") [.ref a, .ref b, r]) Q E s := by
  obtain ⟨l, n, ys, rel, dd⟩ := kd_of I g
  have hz : ys.length ≤ sizeLine := by rw [← Paired.length rel]; exact l
  have hl' : (putX xs k b y).length ≤ sizeLine := by have := putX_len xs k b y; omega
  refine call_setdefault_heap (hsz := hz) (kd_room hu) (key_is I hk) n dd (fun p hp => ?_) fun hn h' dd' hs => ?_
  · have q := krel_val k rel
    rw [hp] at q
    cases q0 : valX xs k with
    | none => rw [q0] at q; exact (show False from q).elim
    | some v0 => rw [q0] at q; exact h1 v0 q0 _ _ (I.tok _) q
  · have q := krel_val k rel
    rw [hn] at q
    cases q0 : valX xs k with
    | some v0 => rw [q0] at q; exact (show False from q).elim
    | none =>
      obtain ⟨ep, kf⟩ := kfact_of (w := X.w) hl' n (krel_put rel k (b := b) rd) dd'
      obtain ⟨o, _, _, ho, _⟩ := dd'
      obtain ⟨⟨ep0, e0⟩, _⟩ := g
      exact h2 q0 ep _ (d_write (a := a) I (by rw [e0]; exact True.intro) hs ⟨o, ho⟩ (kfact_ok kf))
end
def tKSetd (K : PySem.W.Frag) (w : World) (td ty tx : TE) : TE := fun σ H Q => td σ H fun x H1 => ∃ a xs, x = .ref a ∧ KD K w H1 a xs ∧ ty σ H1 fun y H2 => tx σ H2 fun z H3 => ∃ k b, y = .ref b ∧ KD K w H3 a xs ∧ KeyH K H3 k b ∧ xs.length < sizeLine ∧
  (∀ v, valX xs k = some v → Q v H3) ∧ (valX xs k = none → ∀ ep, Q z (upd H3 a (kdx w a ep (putX xs k b z))))
theorem pe_ksetd {X : Cx} {o e f : Expr} {td ty tx : TE} {apos cpos : Pos} (hu : X.A.units + 65 < cLine) (ho : PE X o td) (he : PE X e ty) (hf : PE X f tx) (m : M2 X o "setdefault" apos e f cpos) : PE X (.Call (.Attribute o "setdefault" apos) [e, f] [] cpos) (tKSetd X.K X.w td ty tx) := by
  refine ⟨fun pins s σ H Q I h => ?_⟩
  refine wpAny_Call_method m.base m.few m.line PySem.F.plainAttrs_dict PySem.F.slot_dict_setdefault PySem.F.type_dict_setdefault (thn (ho.run pins s σ H _ I h) fun u s1 ⟨x, H1, I1, rx, a, xs, ex, d, q1⟩ => ?_)
  subst ex
  obtain rfl : u = Value.ref a := rx
  refine ⟨kd_type I1 d, kd_noDict I1 d, ?_⟩
  rw [m.trees]
  refine Calls.callWith_builtin rfl (Calls.evalArgs_plain (Calls.spliced_cons (thn (he.run pins s1 σ H1 _ I1 q1) fun iv s2 ⟨y, H2, I2, ry, q2⟩ =>
    Calls.spliced_cons (thn (hf.run pins s2 σ H2 _ I2 q2) fun fv s3 ⟨z, H3, I3, rz, k, b, ey, g, hk, hl, q3, q4⟩ => Calls.spliced_nil ?_))))
  subst ey
  obtain rfl : iv = Value.ref b := ry
  exact kd_setd hu I3 g hk hl rz (fun v hv w' s4 I4 rw' => ⟨v, H3, I4, rw', q3 v hv⟩) fun hn ep s4 I4 => ⟨z, _, I4, rz, q4 hn ep⟩
/-! ### their meaning -/
theorem R.bind_ok {α β : Type} {x : R α} {k : α → R β} {z : β} (h : (x >>= k) = .ok z) : ∃ a, x = .ok a ∧ k a = .ok z := by
  cases x with
  | ok a => exact ⟨a, rfl, h⟩
  | ex n as => cases h
  | bad => cases h
section
variable {c : Ct}
/-- an expression whose answer is a datum and that writes own things anew -/
def SemX (c : Ct) (t : TE) (f : En → R (D × En)) : Prop := ∀ B H0 Hf H σ ρ (Q : VK), EnvOk c.K B H0 Hf H σ ρ → ∀ d ρ', f ρ = .ok (d, ρ') → (∀ v Hf' H', EnvOk c.K B H0 Hf' H' σ ρ' → Dp c.K Hf' v d → Q v H') → t σ H Q
def SemXA (c : Ct) (t : TA) (f : En → R (List D × En)) : Prop := ∀ B H0 Hf H σ ρ (Q : List V → Hp → Prop), EnvOk c.K B H0 Hf H σ ρ → ∀ ds ρ', f ρ = .ok (ds, ρ') → (∀ vs Hf' H', EnvOk c.K B H0 Hf' H' σ ρ' → DpAll c.K Hf' vs ds → Q vs H') → t σ H Q
def ksetdX (i : Nat) (fk fx : En → R SV) : En → R (D × En) := fun ρ => match ρ[i]? with
  | some (some (.kd kvs)) => fk ρ >>= fun kk => fx ρ >>= fun x => match kdKey kk, x with
    | .ok k, .d x => if kvs.length < sizeLine then (match valD kvs k with
      | some d => .ok (d, ρ)
      | none => .ok (x, ρ.set i (some (.kd (putD kvs k x))))) else .bad
    | _, _ => .bad
  | _ => .bad
theorem sem_ksetd {i : Nat} {tk tx : TE} {fk fx : En → R SV} (hk : SemE c true tk fk) (hx : SemE c true tx fx) : SemX c (tKSetd c.K c.K.w (tVar i) tk tx) (ksetdX i fk fx) := by
  intro B H0 Hf H σ ρ Q I d ρ' e q
  unfold ksetdX at e
  split at e
  rotate_left
  · cases e
  rename_i kvs ei
  obtain ⟨kk, ek, e⟩ := R.bind_ok e
  obtain ⟨x, ex, e⟩ := R.bind_ok e
  obtain ⟨v, h1, p, ep, xs, rfl, h2, h3, h4⟩ := I.sl i _ ei
  refine ⟨.ref p, h1, p, xs, rfl, kd_mk I.i h2 h4, ?_⟩
  refine hk B H0 Hf H σ ρ _ I ?_
  rw [ek]
  intro kv Hf1 H1 x1 q1 fr1
  refine hx B H0 Hf1 H1 σ ρ _ (I.grow x1) ?_
  rw [ex]
  intro z Hf2 H2 x2 q2 fr2
  split at e
  rotate_left
  · cases e
  rename_i k xd ekk
  split at e
  rotate_left
  · cases e
  rename_i hl
  obtain ⟨b, rfl, hb⟩ := kdKey_ok q1 ekk
  have X2 := x1.trans x2
  have I2 := I.grow X2
  have h2' := X2.h _ _ h2
  have h3' := X2.still h2 h3
  have h4' := kdr_mono X2.f h4
  have hb' := keyH_mono x2.f hb
  refine ⟨k, b, rfl, kd_mk X2.i h2' h4', keyH_mono x2.i hb', by rw [kdr_len h4]; exact hl, fun v hv => ?_, fun hv ep' => ?_⟩
  · rcases kdr_val k h4' with ⟨a1, a2⟩ | ⟨d', v', a1, a2, a3⟩
    · rw [a2] at hv; cases hv
    · rw [a2] at hv; cases hv
      rw [a1] at e
      cases e
      exact q _ Hf2 H2 I2 a3
  · rcases kdr_val k h4' with ⟨a1, a2⟩ | ⟨d', v', a1, a2, a3⟩
    · rw [a1] at e
      cases e
      have q2' := (show Dp c.K.k Hf2 z _ from q2)
      exact q _ Hf2 _ (I2.rewriteK ei rfl h1 h2' h3' ⟨p, ep', _, rfl, upd_same, h3', kdr_put hb' q2' h4'⟩ rfl) q2'
    · rw [a2] at hv; cases hv
def conPX (f : En → R SV) (g : En → R (List D × En)) : En → R (List D × En) := fun ρ => f ρ >>= fun r => datS r >>= fun d => g ρ >>= fun p => .ok (d :: p.1, p.2)
theorem sem_conPX {te : TE} {t : TA} {f : En → R SV} {g : En → R (List D × En)} (h : SemE c true te f) (h' : SemXA c t g) : SemXA c (tCons te t) (conPX f g) := by
  intro B H0 Hf H σ ρ Q I ds ρ' e q
  unfold conPX at e
  obtain ⟨r, er, e⟩ := R.bind_ok e
  obtain ⟨d, ed, e⟩ := R.bind_ok e
  obtain ⟨p, ep, e⟩ := R.bind_ok e
  cases e
  refine h B H0 Hf H σ ρ _ I ?_
  rw [er]
  intro v Hf1 H1 x1 q1 fr
  obtain ⟨Hf2, x2, q2⟩ := froze x1 q1 (fr rfl) ed
  have I2 := I.grow x2
  refine h' ⟨Hf2, B.fx⟩ H0 Hf2 H1 σ ρ _ I2.rebase p.1 p.2 ep fun vs Hf3 H3 I3 q3 => ?_
  exact q (v :: vs) Hf3 H3 (I3.unbase I2.ext) (.cons (dp_mono I3.ext.f q2) q3)
def conLX (f : En → R (D × En)) : En → R (List D × En) := fun ρ => f ρ >>= fun p => .ok ([p.1], p.2)
theorem sem_conLX {te : TE} {f : En → R (D × En)} (h : SemX c te f) : SemXA c (tCons te tNil) (conLX f) := by
  intro B H0 Hf H σ ρ Q I ds ρ' e q
  unfold conLX at e
  obtain ⟨p, ep, e⟩ := R.bind_ok e
  cases e
  exact h B H0 Hf H σ ρ _ I p.1 p.2 ep fun v Hf1 H1 I1 q1 => q [v] Hf1 H1 I1 (.cons q1 .nil)
def dispTX (g : En → R (List D × En)) : En → R (D × En) := fun ρ => g ρ >>= fun p => if p.1.length ≤ 1000 then .ok (.tuple p.1, p.2) else .bad
theorem sem_tupX {t : TA} {g : En → R (List D × En)} (h : SemXA c t g) : SemX c (tTup t) (dispTX g) := by
  intro B H0 Hf H σ ρ Q I d ρ' e q
  unfold dispTX at e
  obtain ⟨p, ep, e⟩ := R.bind_ok e
  split at e
  rotate_left
  · cases e
  rename_i hl
  cases e
  refine h B H0 Hf H σ ρ _ I p.1 p.2 ep fun vs Hf1 H1 I1 q1 => ?_
  exact ⟨Nat.le_of_lt (small1000 (by rw [dpAll_len q1]; exact hl)), fun a ha => q (.ref a) _ _ (I1.grow (.laid I1.i ha)) (.tup (.inl (.inl upd_same)) (dpAll_mono (upd_grow (I1.i.free ha)) q1))⟩
/-! ### x = [e for .. in ..], e such an expression -/
def lcFX (k : D → En → R En) (e : En → R (D × En)) (vs : List Nat) : En → List D → R (List D × En)
  | ρ, [] => .ok ([], ρ)
  | ρ, x :: xs => match k x ρ with
    | .ok ρ1 => e ρ1 >>= fun p => lcFX k e vs (wipeE p.2 vs) xs >>= fun q => .ok (p.1 :: q.1, q.2)
    | _ => .bad
def asgLX (j : Nat) (fi : En → R (List D)) (k : D → En → R En) (e : En → R (D × En)) (vs : List Nat) : En → R Fl := fun ρ => if noPin ρ = true then fi ρ >>= fun xs => if xs.length < sizeLine then (match lcFX k e vs (wipeE ρ vs) xs with
  | .ok q => .ok (.nx (q.2.set j (some (.ol q.1))))
  | _ => .bad) else .bad else .bad
theorem ExFs.updL {K : Kx} {Hf H : Hp} {as : List D} {p : Addr} {xs ys : List V} (hp : H p = some (.lst xs)) (h : ExFs K Hf H as) : ExFs K Hf (L2.upd H p (.lst ys)) as := ExFs.upd hp h
/-- the list that is being made grows -/
theorem EnvOk.acc {K : Kx} {Hb H0 Hf H : Hp} {σ : L2.St} {ρ : En} {Dd : Addr} {l l' : List V} (I : EnvOk K ⟨Hb, fun _ => .non⟩ (upd H0 Dd (.lst l)) Hf H σ ρ) (hb : Hb Dd = none) : EnvOk K ⟨Hb, fun _ => .non⟩ (upd H0 Dd (.lst l')) Hf (upd H Dd (.lst l')) σ ρ := by
  have hD : H Dd = some (.lst l) := I.ext.h Dd _ upd_same
  have hfD : Hf Dd = none := by
    cases q : Hf Dd with
    | none => rfl
    | some o =>
      rcases I.ext.n Dd (by rw [q]; exact fun z => nomatch z) with z | z
      · exact absurd hb z
      · rw [upd_same] at z; cases z
  have ne : ∀ {p : Addr}, (upd H0 Dd (.lst l)) p = none → p ≠ Dd := fun {p} h z => by rw [z, upd_same] at h; cases h
  have own : ∀ {i : Nat} {r : SV} {p : Addr}, ρ[i]? = some (some r) → r.own = true → σ[i]? = some (some (.ref p)) → p ≠ Dd := fun e o w => ne (I.new _ _ _ e o w)
  refine ⟨⟨I.ext.f, fun b o eb => ?_, fun b o eb => ?_, fun p hp => ?_⟩, I.len, fun j r e => ?_, fun j r p e o w => ?_, I.sep, fun j xs e => ?_⟩
  · by_cases z : b = Dd
    · subst z; rw [upd_same] at eb ⊢; exact eb
    · rw [upd_ne z] at eb ⊢
      exact I.ext.h b o (by rw [upd_ne z]; exact eb)
  · have z : b ≠ Dd := fun z => by rw [z, hfD] at eb; cases eb
    rw [upd_ne z]; exact I.i b o eb
  · rcases I.ext.n p hp with z | z
    · exact .inl z
    · exact .inr (by rw [upd_ne (ne z)]; rw [upd_ne (ne z)] at z; exact z)
  · obtain ⟨v, h1, h2⟩ := I.sl j r e
    refine ⟨v, h1, ?_⟩
    cases r with
    | d x => exact h2
    | ol ys =>
      obtain ⟨q, us, rfl, u1, u2⟩ := h2
      exact ⟨q, us, rfl, by rw [upd_ne (own e rfl h1)]; exact u1, u2⟩
    | od ys =>
      obtain ⟨q, us, rfl, u1, u2⟩ := h2
      exact ⟨q, us, rfl, by rw [upd_ne (own e rfl h1)]; exact u1, u2⟩
    | pin ys =>
      obtain ⟨p, o, z, _⟩ := I.pin j ys e
      cases z
    | exn n as => exact ⟨h2.1, h2.2.1, h2.2.2.upd hD⟩
    | pd ys => exact h2
    | kd ys =>
      obtain ⟨q, ep, us, rfl, u1, u2⟩ := h2
      exact ⟨q, ep, us, rfl, by rw [upd_ne (own e rfl h1)]; exact u1, u2⟩
    | sk ys => exact h2
    | sd ys => exact h2
    | so C fs => exact h2
    | oi C fs =>
      obtain ⟨q, dx, us, rfl, u1, u2⟩ := h2
      exact ⟨q, dx, us, rfl, by rw [upd_ne (own e rfl h1)]; exact u1, u2⟩
  · have z := I.new j r p e o w
    rw [upd_ne (ne z)]; rw [upd_ne (ne z)] at z; exact z
  · obtain ⟨p, o, z, _⟩ := I.pin j xs e
    cases z
theorem wipeE_in {ρ : En} {i : Nat} {x : SV} : ∀ {vs : List Nat}, i ∈ vs → (wipeE ρ vs)[i]? ≠ some (some x) := fun hi h => (wipeE_some h).2 hi
theorem lcFX_wiped {k : D → En → R En} {e : En → R (D × En)} {vs : List Nat} : ∀ (xs : List D) (ρ : En) (q : List D × En), (∀ j ∈ vs, ∀ x, ρ[j]? ≠ some (some x)) → lcFX k e vs ρ xs = .ok q → ∀ j ∈ vs, ∀ x, q.2[j]? ≠ some (some x)
  | [], ρ, q, h, e => by unfold lcFX at e; cases e; exact h
  | x :: xs, ρ, q, h, e => by
    unfold lcFX at e
    split at e
    · obtain ⟨p, _, e⟩ := R.bind_ok e
      obtain ⟨q', eq, e⟩ := R.bind_ok e
      cases e
      exact lcFX_wiped xs _ q' (fun j hj x => wipeE_in hj) eq
    · cases e
theorem EnvOk.noFx {K : Kx} {B : Bs} {H0 Hf H : Hp} {σ : L2.St} {ρ : En} (I : EnvOk K B H0 Hf H σ ρ) (np : noPin ρ = true) : EnvOk K ⟨Hf, fun _ => .non⟩ H0 Hf H σ ρ :=
  ⟨I.ext.rebase, I.len, I.sl, I.new, I.sep, fun i xs e => by cases noPin_get np e⟩
/-- the list that will be made is laid -/
theorem EnvOk.lay {K : Kx} {Hb H0 Hf H : Hp} {σ : L2.St} {ρ : En} {Dd : Addr} (I : EnvOk K ⟨Hb, fun _ => .non⟩ H0 Hf H σ ρ) (h : H Dd = none) (hb : Hb Dd = none) : EnvOk K ⟨Hb, fun _ => .non⟩ (upd H0 Dd (.lst [])) Hf (upd H Dd (.lst [])) σ ρ := by
  have h0 : H0 Dd = none := I.ext.h.free h
  have hf : Hf Dd = none := I.i.free h
  have x : Ext Hf H Hf (upd H Dd (.lst [])) := .fresh I.i h
  have I1 := I.grow x
  have own : ∀ {i : Nat} {r : SV} {p : Addr}, ρ[i]? = some (some r) → r.own = true → σ[i]? = some (some (.ref p)) → p ≠ Dd := fun e o w z => I.own_at e o w (by rw [z]; exact h)
  refine ⟨⟨I1.ext.f, fun b o eb => ?_, I1.i, fun p hp => ?_⟩, I1.len, I1.sl, fun j r p e o w => ?_, I1.sep, fun j xs e => ?_⟩
  · by_cases z : b = Dd
    · subst z; rw [upd_same] at eb ⊢; exact eb
    · rw [upd_ne z] at eb ⊢
      exact I.ext.h b o eb
  · rcases I1.ext.n p hp with z | z
    · exact .inl z
    · by_cases y : p = Dd
      · subst y; exact absurd hf hp
      · exact .inr (by rw [upd_ne y]; exact z)
  · rw [upd_ne (own e o w)]; exact I1.new j r p e o w
  · obtain ⟨p, o, z, _⟩ := I1.pin j xs e
    cases z
theorem sem_asgLX {is : List Nat} {wi : TI} {g : TG} {te : TE} {vs : List Nat} {j : Nat} {fi : En → R (List D)} {k : D → En → R En} {e : En → R (D × En)} (hi : SemI c wi fi) (hg : SemG c is g k) (he : SemX c te e) (hs : ∀ i ∈ is, i ∈ vs) :
    SemS c (tAsg (tLc wi g tYes te vs) (gName j)) (asgLX j fi k e vs) := by
  intro B H0 Hf H σ ρ Dn I o
  unfold asgLX at o
  split at o
  rotate_left
  · exact o.elim
  rename_i np
  refine hi B H0 Hf H σ ρ _ I ((Out.bind o fun xs exs o1 => ?_ : Out c B H0 (fi ρ) (fun xs => ∀ J Hf' H', Ext Hf H Hf' H' → Walks c.K J Hf' xs → _)).here I.ext)
  intro J Hf1 H1 x1 ⟨Y, w, hy⟩ Dd hD
  split at o1
  rotate_left
  · exact o1.elim
  rename_i hlen
  split at o1
  rotate_left
  · exact o1.elim
  rename_i q eq
  have I1 := I.grow x1
  have hDf : Hf1 Dd = none := I1.i.free hD
  have h0 : H0 Dd = none := I1.ext.h.free hD
  have W := ((I1.noFx np).wipe vs).lay hD hDf
  have hw := lcFX_wiped xs _ q (fun j hj x => wipeE_in hj) eq
  refine lc_it w (fun i H2 => i ≤ xs.length ∧ ∃ Hfi acc ds ys ρi, EnvOk c.K ⟨Hf1, fun _ => .non⟩ (upd H0 Dd (.lst acc)) Hfi H2 (L2.wipe σ vs) ρi ∧ DpAll c.K Hfi acc ds ∧ ds.length ≤ i ∧
    lcFX k e vs ρi (xs.drop i) = .ok (ys, q.2) ∧ q.1 = ds ++ ys) ⟨Nat.zero_le _, Hf1, [], [], q.1, wipeE ρ vs, W, .nil, Nat.zero_le _, by rw [List.drop_zero]; exact eq, rfl⟩ (fun i H2 _ ⟨_, Hfi, acc, ds, ys, ρi, I2, _⟩ => I2.ext.f.trans I2.i) ?_ ?_
  · rintro i x H2 H' hlt ⟨_, Hfi, acc, ds, ys, ρi, I2, hds, hlen2, el, eq2⟩ y
    obtain ⟨d, Hf', e1, x3, qd⟩ := hy i H2 x H' Hfi hlt I2.ext.f I2.i y
    have ed : xs.drop i = d :: xs.drop (i + 1) := by
      rw [List.drop_eq_getElem_cons hlt]
      rw [List.getElem?_eq_getElem hlt] at e1
      cases e1; rfl
    rw [ed] at el
    unfold lcFX at el
    split at el
    rotate_left
    · cases el
    rename_i ρ1 ek
    obtain ⟨p, ep, el⟩ := R.bind_ok el
    obtain ⟨q', eq', el⟩ := R.bind_ok el
    have el2 : (p.1 :: q'.1, q'.2) = (ys, q.2) := by injection el
    obtain ⟨el3, el4⟩ := Prod.mk.inj el2
    subst el3
    refine hg ⟨Hf1, fun _ => .non⟩ (upd H0 Dd (.lst acc)) Hf' H' (L2.wipe σ vs) ρi x d _ (I2.grow x3) qd ⟨ρ1, ek, fun σ2 l2 n2 I3 => ?_⟩
    have wb : L2.wipe σ2 vs = L2.wipe σ vs := by
      have := wipe_back (σ := σ) l2 n2 hs
      exact this
    refine ⟨wb, ?_⟩
    unfold tYes
    refine iteT (he ⟨Hf', fun _ => .non⟩ (upd H0 Dd (.lst acc)) Hf' H' σ2 ρ1 _ I3.rebase p.1 p.2 ep fun v Hf4 H4 I4 q4 => ?_)
    have I5 : EnvOk c.K ⟨Hf1, fun _ => .non⟩ (upd H0 Dd (.lst acc)) Hf4 H4 σ2 p.2 := EnvOk.unbase (B := ⟨Hf1, fun _ => .non⟩) I4 I3.ext
    have I6 := I5.wipe vs
    rw [wb] at I6
    refine ⟨acc, I5.ext.h Dd _ upd_same, by rw [dpAll_len hds]; omega, hlt, Hf4, acc ++ [v], ds ++ [p.1], q'.1, wipeE p.2 vs, I6.acc hDf, dpAll_append (dpAll_mono (x3.f.trans I4.ext.f) hds) (.cons q4 .nil), by rw [List.length_append]; show ds.length + 1 ≤ i + 1; omega, by rw [eq', ← el4], by rw [eq2, List.append_assoc]; rfl⟩
  · rintro H2 ⟨_, Hfi, acc, ds, ys, ρi, I2, hds, hlen2, el, eq2⟩
    rw [List.drop_length] at el
    unfold lcFX at el
    cases el
    rw [List.append_nil] at eq2
    have ne : ∀ {p : Addr}, (upd H0 Dd (.lst acc)) p = none → p ≠ Dd := fun {p} h z => by rw [z, upd_same] at h; cases h
    have hD2 : H2 Dd = some (.lst acc) := I2.ext.h Dd _ upd_same
    have hfD : Hfi Dd = none := by
      cases qq : Hfi Dd with
      | none => rfl
      | some o =>
        rcases I2.ext.n Dd (by rw [qq]; exact fun z => nomatch z) with z | z
        · exact absurd hDf z
        · rw [upd_same] at z; cases z
    have at_ : ∀ {i : Nat} {r : SV}, q.2[i]? = some (some r) → (L2.wipe σ vs)[i]? = σ[i]? := fun {i r} e => wipe_at σ fun hi => hw i hi r e
    have J : EnvOk c.K B H0 Hfi H2 σ q.2 := by
      refine ⟨⟨I1.ext.f.trans I2.ext.f, fun b o eb => ?_, I2.i, fun p hp => ?_⟩, by have := I2.len; rw [wipe_length] at this; exact this, fun i r e => ?_, fun i r p e o w => ?_, fun i i' r r' p e o e' o' w w' => ?_, fun i xs e => ?_⟩
      · have z : b ≠ Dd := fun z => by rw [z, h0] at eb; cases eb
        exact I2.ext.h b o (by rw [upd_ne z]; exact eb)
      · rcases I2.ext.n p hp with z | z
        · exact I1.ext.n p z
        · exact .inr (by rw [upd_ne (ne z)] at z; exact z)
      · rw [← at_ e]; exact I2.sl i r e
      · have z := I2.new i r p e o (by rw [at_ e]; exact w)
        rw [upd_ne (ne z)] at z; exact z
      · exact I2.sep i i' r r' p e o e' o' (by rw [at_ e]; exact w) (by rw [at_ e']; exact w')
      · obtain ⟨p, o, z, _⟩ := I2.pin i xs e
        cases z
    refine (show GS c B H0 Dn (.nx _) from o1) Hfi H2 _ (J.set (v := .ref Dd) rfl ⟨Dd, acc, rfl, hD2, hfD, by rw [eq2]; exact hds⟩ fun _ p ep => ?_)
    cases ep
    exact ⟨h0, fun i r e o w => absurd rfl (ne (I2.new i r Dd e o (by rw [at_ e]; exact w)))⟩
end
end Pl
/-! PlI: zip of two lists; comprehensions of two clauses. -/
namespace Pl
open PySem PySem.Spec PyProof.Rows L2
/-! ### zip -/
def zipL (xs ys : List D) : List D := xs.zipWith (fun a b => .tuple [a, b]) ys
theorem walks_zip {K : PySem.W.Frag} {J : It} {Hf : Hp} {vs us : List V} {xs ys : List D} (h : DpAll K Hf vs xs) (h' : DpAll K Hf us ys) (w : Walk J (min vs.length us.length) (fun H => Same Hf H) (YPair (fun i => vs[i]?) (fun i => us[i]?))) : Walks K J Hf (zipL xs ys) := by
  have hl : (zipL xs ys).length = min vs.length us.length := by unfold zipL; rw [List.length_zipWith, dpAll_len h, dpAll_len h']
  refine ⟨_, by rw [hl]; exact w, fun i H x H' Hfi hi s1 s2 y => ?_⟩
  obtain ⟨T, a, b, rfl, e2, rfl, e4, e5⟩ := y
  obtain ⟨d, d1, d2⟩ := dpAll_getV h e4
  obtain ⟨d', d3, d4⟩ := dpAll_getV h' e5
  have hn : Hfi T = none := s2.free e2
  have g := upd_grow (o := .tup [a, b]) hn
  refine ⟨.tuple [d, d'], upd Hfi T (.tup [a, b]), ?_, Ext.laid s2 e2, .tup (.inl (.inl upd_same)) (.cons (dp_mono g (dp_mono s1 d2)) (.cons (dp_mono g (dp_mono s1 d4)) .nil))⟩
  unfold zipL
  rw [List.getElem?_zipWith, d1, d3]
def zipD (f : En → R (List D)) : En → R (List D) := fun ρ => f ρ >>= fun ds => match ds with
  | [.list xs, .list ys] => .ok (zipL xs ys)
  | _ => .bad
section
variable {c : Ct}
theorem sem_zip {t : TA} {f : En → R (List D)} (h : SemA c t f) : SemI c (iZip c.K t) (zipD f) := by
  intro B H0 Hf H σ ρ Rr I o
  refine h B H0 Hf H σ ρ _ I (Out.bind o fun ds eds o1 => fun vs Hf1 H1 x1 q1 => ?_)
  split at o1
  · rename_i xs ys
    cases q1 with
    | cons a b =>
      cases b with
      | cons b e =>
        cases e
        cases a with
        | lst s1 s2 =>
          cases b with
          | lst t1 t2 =>
            exact ⟨_, _, _, _, rfl, x1.i.seq s1, x1.i.seq t1, (show ∀ J Hf' H', Ext Hf H Hf' H' → Walks c.K J Hf' (zipL xs ys) → Rr J H' from o1) _ Hf1 H1 x1 (walks_zip s2 t2 ((walk_zip rfl).mono (fun H e => ⟨e.seq s1, e.seq t1⟩) fun _ _ _ _ _ _ y => y))⟩
  · exact o1.elim
/-! ### a loop's measure -/
theorem it_any {J : It} {n : Nat} {G : Hp → Prop} {Y : Nat → Hp → V → Hp → Prop} (w : Walk J n G Y) {Bd : V → Hp → (Hp → Prop) → Prop} {H1 : Hp} {Qd : Hp → Prop} (Pv : Nat → Hp → Prop) (h0 : Pv 0 H1) (hG : ∀ i H, i ≤ n → Pv i H → G H)
    (hs : ∀ i x H H', i < n → Pv i H → Y i H x H' → Bd x H' (Pv (i + 1))) (hd : ∀ H, Pv n H → Qd H) :
    ∃ W : Nat → Nat → Hp → Prop, (∃ m, W 0 m H1) ∧ ∀ i m H, W i m H → (J.stop i H ∧ Qd H) ∨ (J.go i H ∧ ∃ Nx : Hp → Prop, (∀ H', Nx H' → ∃ m', m' < m ∧ W (i + 1) m' H') ∧ ∀ x H', J.yld i H x H' → Bd x H' Nx) := by
  refine ⟨fun i m H => m = n - i ∧ i ≤ n ∧ Pv i H, ⟨n, by simp, Nat.zero_le _, h0⟩, fun i m H hW => ?_⟩
  obtain ⟨rfl, hi, p⟩ := hW
  have q := hG i H hi p
  rcases Nat.lt_or_ge i n with hlt | hge
  · exact .inr ⟨w.goes i H hlt q, Pv (i + 1), fun H' p' => ⟨n - (i + 1), by omega, rfl, hlt, p'⟩, fun x H' y => hs i x H H' hlt p (w.yields i H x H' hlt q y)⟩
  · obtain rfl : i = n := by omega
    exact .inl ⟨w.stops H q, hd H p⟩
/-! ### two clauses -/
def lcIn (fi : En → R (List D)) (k : D → En → R En) (t : En → R Bool) (e : En → R SV) (vs : List Nat) : En → R (List D) := fun ρ => fi ρ >>= fun xs => lcF k t e (wipeE ρ vs) xs
def lc2F (k : D → En → R En) (t : En → R Bool) (inn : En → R (List D)) (ρ0 : En) : List D → R (List D)
  | [] => .ok []
  | x :: xs => match k x ρ0 with
    | .ok ρ1 => t ρ1 >>= fun b => if b = true then inn ρ1 >>= fun ys => lc2F k t inn ρ0 xs >>= fun zs => .ok (ys ++ zs) else lc2F k t inn ρ0 xs
    | _ => .bad
def lcE2 (fi : En → R (List D)) (k : D → En → R En) (t : En → R Bool) (inn : En → R (List D)) (vs : List Nat) : En → R SV := fun ρ => if noPin ρ = true then fi ρ >>= fun xs => (match lc2F k t inn (wipeE ρ vs) xs with
  | .ok ys => if ys.length < sizeLine then .ok (.ol ys) else .bad
  | _ => .bad) else .bad
theorem EnvOk.acc_at {K : Kx} {Hb H0 Hf H : Hp} {σ : L2.St} {ρ : En} {Dd : Addr} {l : List V} (I : EnvOk K ⟨Hb, fun _ => .non⟩ (upd H0 Dd (.lst l)) Hf H σ ρ) (hb : Hb Dd = none) : H Dd = some (.lst l) ∧ Hf Dd = none := by
  refine ⟨I.ext.h Dd _ upd_same, ?_⟩
  cases q : Hf Dd with
  | none => rfl
  | some o =>
    rcases I.ext.n Dd (by rw [q]; exact fun z => nomatch z) with z | z
    · exact absurd hb z
    · rw [upd_same] at z; cases z
theorem Ext.acc {Hf1 H1 Hf H : Hp} {Dd : Addr} {o : HO} (x : Ext Hf1 H1 Hf H) (h1 : H1 Dd = none) (hf : Hf Dd = none) : Ext Hf1 H1 Hf (upd H Dd o) :=
  ⟨x.f, fun b o' e => by rw [upd_ne (ne_of_none e h1)]; exact x.h _ _ e, fun b o' e => by rw [upd_ne (ne_of_none e hf)]; exact x.i _ _ e, x.n⟩
theorem EnvOk.rebaseN {K : Kx} {Hb H0 Hf H : Hp} {σ : L2.St} {ρ : En} (I : EnvOk K ⟨Hb, fun _ => .non⟩ H0 Hf H σ ρ) : EnvOk K ⟨Hf, fun _ => .non⟩ H0 Hf H σ ρ := EnvOk.rebase (B := ⟨Hb, fun _ => .non⟩) I
theorem sem_lc2 {is is1 : List Nat} {wi wi1 : TI} {g g1 : TG} {tt tt1 : TT} {te : TE} {vs vs1 : List Nat} {fi fi1 : En → R (List D)} {k k1 : D → En → R En} {t t1 : En → R Bool} {e : En → R SV} (hi : SemI c wi fi) (hg : SemG c is g k) (ht : SemT c tt t)
    (hi1 : SemI c wi1 fi1) (hg1 : SemG c is1 g1 k1) (ht1 : SemT c tt1 t1) (he : SemE c true te e) (hs : ∀ i ∈ is, i ∈ vs) (hs1 : ∀ i ∈ is1, i ∈ vs1) :
    SemE c true (tLc2 wi g tt wi1 g1 tt1 te vs vs1) (lcE2 fi k t (lcIn fi1 k1 t1 e vs1) vs) := by
  intro B H0 Hf H σ ρ Q I o
  unfold lcE2 at o
  split at o
  rotate_left
  · exact o.elim
  rename_i np
  refine hi B H0 Hf H σ ρ _ I (Out.bind o fun xs exs o1 => ?_)
  intro J Hf1 H1 x1 ⟨Y, w, hy⟩ Dd hD
  split at o1
  rotate_left
  · exact o1.elim
  rename_i ys eq
  split at o1
  rotate_left
  · exact o1.elim
  rename_i hlen
  have I1 := I.grow x1
  have hDf : Hf1 Dd = none := I1.i.free hD
  have W := ((I1.noFx np).wipe vs).lay hD hDf
  refine it_any w (Bd := fun x H' Nx => g x (L2.wipe σ vs) H' fun σ2 H2 => L2.wipe σ2 vs = L2.wipe σ vs ∧ tt σ2 H2 fun b H3 =>
    if b = true then wi1 σ2 H3 fun J1 H4 => ∃ W1 : Nat → Nat → Hp → Prop, (∃ m, W1 0 m H4) ∧ ∀ j k H, W1 j k H →
      (J1.stop j H ∧ Nx H) ∨ (J1.go j H ∧ ∃ Nx1 : Hp → Prop, (∀ H', Nx1 H' → ∃ k', k' < k ∧ W1 (j + 1) k' H') ∧ ∀ x H', J1.yld j H x H' → g1 x (L2.wipe σ2 vs1) H' fun σ3 H5 => L2.wipe σ3 vs1 = L2.wipe σ2 vs1 ∧ tt1 σ3 H5 fun b H6 =>
        if b = true then te σ3 H6 fun y H7 => ∃ acc, H7 Dd = some (.lst acc) ∧ acc.length < sizeLine ∧ Nx1 (upd H7 Dd (.lst (acc ++ [y]))) else Nx1 H6)
    else Nx H3)
    (fun i H2 => i ≤ xs.length ∧ ∃ Hfi acc ds zs, Ext Hf1 H1 Hfi H2 ∧ EnvOk c.K ⟨Hf1, fun _ => .non⟩ (upd H0 Dd (.lst acc)) Hfi H2 (L2.wipe σ vs) (wipeE ρ vs) ∧ DpAll c.K Hfi acc ds ∧ lc2F k t (lcIn fi1 k1 t1 e vs1) (wipeE ρ vs) (xs.drop i) = .ok zs ∧ ys = ds ++ zs)
    ⟨Nat.zero_le _, Hf1, [], [], ys, .fresh I1.i hD, W, .nil, by rw [List.drop_zero]; exact eq, rfl⟩ (fun i H2 _ ⟨_, Hfi, acc, ds, zs, x2, _⟩ => x2.f.trans x2.i) ?_ ?_
  · rintro i x H2 H' hlt ⟨_, Hfi, acc, ds, zs, x2, I2, hds, el, eq2⟩ y
    obtain ⟨d, Hf', e1, x3, qd⟩ := hy i H2 x H' Hfi hlt x2.f x2.i y
    have ed : xs.drop i = d :: xs.drop (i + 1) := by
      rw [List.drop_eq_getElem_cons hlt]
      rw [List.getElem?_eq_getElem hlt] at e1
      cases e1; rfl
    rw [ed] at el
    unfold lc2F at el
    split at el
    rotate_left
    · cases el
    rename_i ρ1 ek
    obtain ⟨b, et, el⟩ := R.bind_ok el
    have x4 := x2.trans x3
    have I3 := I2.grow x3
    refine hg ⟨Hf1, fun _ => .non⟩ (upd H0 Dd (.lst acc)) Hf' H' (L2.wipe σ vs) (wipeE ρ vs) x d _ I3 qd ⟨ρ1, ek, fun σ2 l2 n2 I4 => ⟨wipe_back l2 n2 hs, ?_⟩⟩
    refine ht ⟨Hf1, fun _ => .non⟩ (upd H0 Dd (.lst acc)) Hf' H' σ2 ρ1 _ I4 ?_
    rw [et]
    intro Hf5 H5 x5
    have I5 := I3.grow x5
    have J5 := I4.grow x5
    have hds5 := dpAll_mono (x3.f.trans x5.f) hds
    cases b with
    | false => exact iteF ⟨hlt, Hf5, acc, ds, zs, x4.trans x5, I5, hds5, el, eq2⟩
    | true =>
      obtain ⟨us, eu, el⟩ := R.bind_ok (show (lcIn fi1 k1 t1 e vs1 ρ1 >>= _) = _ from el)
      obtain ⟨ws, ew, el⟩ := R.bind_ok el
      have el' : us ++ ws = zs := by injection el
      subst el'
      unfold lcIn at eu
      obtain ⟨xs1, ef, eu⟩ := R.bind_ok eu
      refine iteT (hi1 ⟨Hf1, fun _ => .non⟩ (upd H0 Dd (.lst acc)) Hf5 H5 σ2 ρ1 _ J5 ?_)
      rw [ef]
      intro J1 Hf6 H6 x6 ⟨Y1, w1, hy1⟩
      have I6 := I5.grow x6
      have J6 := (J5.grow x6).rebaseN.wipe vs1
      have hf6 : Hf6 Dd = none := (I6.acc_at hDf).2
      refine it_any w1 (Bd := fun x H' Nx1 => g1 x (L2.wipe σ2 vs1) H' fun σ3 H5 => L2.wipe σ3 vs1 = L2.wipe σ2 vs1 ∧ tt1 σ3 H5 fun b H6 =>
        if b = true then te σ3 H6 fun y H7 => ∃ acc, H7 Dd = some (.lst acc) ∧ acc.length < sizeLine ∧ Nx1 (upd H7 Dd (.lst (acc ++ [y]))) else Nx1 H6)
        (fun j H7 => j ≤ xs1.length ∧ ∃ Hfj accj dsj vj, Ext Hf1 H1 Hfj H7 ∧ EnvOk c.K ⟨Hf1, fun _ => .non⟩ (upd H0 Dd (.lst accj)) Hfj H7 (L2.wipe σ vs) (wipeE ρ vs) ∧ EnvOk c.K ⟨Hf6, fun _ => .non⟩ (upd H0 Dd (.lst accj)) Hfj H7 (L2.wipe σ2 vs1) (wipeE ρ1 vs1) ∧ DpAll c.K Hfj accj dsj ∧ lcF k1 t1 e (wipeE ρ1 vs1) (xs1.drop j) = .ok vj ∧ ds ++ us = dsj ++ vj)
        ⟨Nat.zero_le _, Hf6, acc, ds, us, (x4.trans x5).trans x6, I6, J6, dpAll_mono x6.f hds5, by rw [List.drop_zero]; exact eu, rfl⟩ (fun j H7 _ ⟨_, Hfj, accj, dsj, vj, _, _, J7, _⟩ => J7.ext.f.trans J7.i) ?_ ?_
      · rintro j x' H7 H8 hlt1 ⟨_, Hfj, accj, dsj, vj, x7, I7, J7, hds7, el1, eq7⟩ y1
        obtain ⟨d1, Hf8, e8, x8, qd1⟩ := hy1 j H7 x' H8 Hfj hlt1 J7.ext.f J7.i y1
        have ed1 : xs1.drop j = d1 :: xs1.drop (j + 1) := by
          rw [List.drop_eq_getElem_cons hlt1]
          rw [List.getElem?_eq_getElem hlt1] at e8
          cases e8; rfl
        rw [ed1] at el1
        unfold lcF at el1
        split at el1
        rotate_left
        · cases el1
        rename_i ρ3 ek1
        obtain ⟨b1, et1, el1⟩ := R.bind_ok el1
        have X8 := x7.trans x8
        have I8 := I7.grow x8
        have J8 := J7.grow x8
        refine hg1 ⟨Hf6, fun _ => .non⟩ (upd H0 Dd (.lst accj)) Hf8 H8 (L2.wipe σ2 vs1) (wipeE ρ1 vs1) x' d1 _ J8 qd1 ⟨ρ3, ek1, fun σ3 l3 n3 L8 => ⟨wipe_back l3 n3 hs1, ?_⟩⟩
        refine ht1 ⟨Hf6, fun _ => .non⟩ (upd H0 Dd (.lst accj)) Hf8 H8 σ3 ρ3 _ L8 ?_
        rw [et1]
        intro Hf9 H9 x9
        have I9 := I8.grow x9
        have J9 := J8.grow x9
        have L9 := L8.grow x9
        have hds9 := dpAll_mono (x8.f.trans x9.f) hds7
        cases b1 with
        | false => exact iteF ⟨hlt1, Hf9, accj, dsj, vj, X8.trans x9, I9, J9, hds9, el1, eq7⟩
        | true =>
          obtain ⟨r, er, el1⟩ := R.bind_ok (show (e ρ3 >>= _) = _ from el1)
          obtain ⟨y', ey, el1⟩ := R.bind_ok el1
          obtain ⟨vv, ev, el1⟩ := R.bind_ok el1
          have el1' : y' :: vv = vj := by injection el1
          subst el1'
          refine iteT (he ⟨Hf6, fun _ => .non⟩ (upd H0 Dd (.lst accj)) Hf9 H9 σ3 ρ3 _ L9 ?_)
          rw [er]
          intro v Hf10 H10 x10 q10 fr
          obtain ⟨Hf11, x11, q11⟩ := froze x10 q10 (fr rfl) ey
          have I11 := I9.grow x11
          have J11 := J9.grow x11
          obtain ⟨hacc, hfd⟩ := I11.acc_at hDf
          have hle : accj.length < sizeLine := by
            have h1 := dpAll_len hds7
            have h2 : ys.length = dsj.length + (y' :: vv).length + ws.length := by rw [eq2, ← List.append_assoc, eq7, List.length_append, List.length_append]
            simp only [List.length_cons] at h2
            omega
          refine ⟨accj, hacc, hle, hlt1, Hf11, accj ++ [v], dsj ++ [y'], vv, ((X8.trans x9).trans x11).acc hD hfd, I11.acc hDf, J11.acc hf6, dpAll_append (dpAll_mono x11.f hds9) (.cons q11 .nil), ev, by rw [eq7, List.append_assoc]; rfl⟩
      · rintro H7 ⟨_, Hfj, accj, dsj, vj, x7, I7, J7, hds7, el1, eq7⟩
        rw [List.drop_length] at el1
        unfold lcF at el1
        have el1' : [] = vj := by injection el1
        subst el1'
        rw [List.append_nil] at eq7
        exact ⟨hlt, Hfj, accj, dsj, ws, x7, I7, hds7, ew, by rw [eq2, ← List.append_assoc, eq7]⟩
  · rintro H2 ⟨_, Hfi, acc, ds, zs, x2, I2, hds, el, eq2⟩
    rw [List.drop_length] at el
    unfold lc2F at el
    have el' : [] = zs := by injection el
    subst el'
    rw [List.append_nil] at eq2
    obtain ⟨hacc, hfd⟩ := I2.acc_at hDf
    subst eq2
    exact (show GE c true Hf H Q (.ol ys) from o1) _ _ _ (x1.trans x2) ⟨Dd, acc, rfl, hacc, hfd, hds⟩ fun _ _ p e => by cases e; exact x1.h.free hD
/-- list(x), tuple(x) in the body of a try -/
theorem cb_listTr {X : Cx} {pn : List (Addr × Obj)} {xe : Value → Shared → Prop} : CallR (X.tr pn xe) (.type "list") (rList X.K) := cb_list
theorem cb_tupTr {X : Cx} {pn : List (Addr × Obj)} {xe : Value → Shared → Prop} : CallR (X.tr pn xe) (.type "tuple") (rTupl X.K) := cb_tup
end
end Pl
/-! Pm: the plain functions, computed. -/
namespace Pl
open PySem PySem.Spec PyProof.Rows L2

/-- an equation by reckoning that is used as an equation -/
theorem nrfl {α : Sort _} {a b : α} (h : a = b) : a = b := h
/-! ### applied combinators -/
section
variable (ρ : En) (g : SV → SV → R SV) (g1 : SV → R SV) (gl : List SV → R SV) (fa fb fc : En → R SV) (ft fu : En → R Bool) (f f' : En → R Fl) (i n : Nat) (d : D) (fA : En → R (List D)) (fB : En → R (List SV)) (gf : List D → R SV)
@[simp] theorem bin_ap : bin g fa fb ρ = (fa ρ >>= fun a => fb ρ >>= fun b => g a b) := nrfl rfl
@[simp] theorem una_ap : una g1 fa ρ = (fa ρ >>= g1) := nrfl rfl
@[simp] theorem kon_ap : kon d ρ = .ok (.d d) := nrfl rfl
@[simp] theorem asT_ap : asT fa ρ = (fa ρ >>= bool1) := nrfl rfl
@[simp] theorem tru_ap : tru fa ρ = (fa ρ >>= truS) := nrfl rfl
@[simp] theorem andT_ap : andT ft fu ρ = (ft ρ >>= fun b => if b = true then fu ρ else .ok false) := nrfl rfl
@[simp] theorem orT_ap : orT ft fu ρ = (ft ρ >>= fun b => if b = true then .ok true else fu ρ) := nrfl rfl
@[simp] theorem notT_ap : notT ft ρ = (ft ρ >>= fun b => .ok (!b)) := nrfl rfl
@[simp] theorem andV_ap : andV fa fb ρ = (fa ρ >>= bool1 >>= fun b => if b = true then fb ρ else .ok (.d (.bool false))) := nrfl rfl
@[simp] theorem orV_ap : orV fa fb ρ = (fa ρ >>= bool1 >>= fun b => if b = true then .ok (.d (.bool true)) else fb ρ) := nrfl rfl
@[simp] theorem notV_ap : notV fa ρ = (fa ρ >>= bool1 >>= fun b => .ok (.d (.bool !b))) := nrfl rfl
@[simp] theorem notN_ap : notN fa ρ = (fa ρ >>= truS >>= fun b => .ok (.d (.bool !b))) := nrfl rfl
@[simp] theorem iff_ap : iff' ft fa fb ρ = (ft ρ >>= fun b => if b = true then fa ρ else fb ρ) := nrfl rfl
@[simp] theorem chain_ap (g' : SV → SV → R SV) : chain g g' fa fb fc ρ = (fa ρ >>= fun a => fb ρ >>= fun b => g a b >>= fun z => bool1 z >>= fun k => if k = true then fc ρ >>= fun w => g' b w else .ok (.d (.bool false))) := nrfl rfl
@[simp] theorem conA_ap : conA fa fA ρ = (fa ρ >>= fun a => datS a >>= fun d => fA ρ >>= fun ds => .ok (d :: ds)) := nrfl rfl
@[simp] theorem nilA_ap : nilA ρ = .ok [] := nrfl rfl
@[simp] theorem conB_ap : conB fa fB ρ = (fa ρ >>= fun a => fB ρ >>= fun ds => .ok (a :: ds)) := nrfl rfl
@[simp] theorem nilB_ap : nilB ρ = .ok [] := nrfl rfl
@[simp] theorem dispT_ap : dispT fA ρ = (fA ρ >>= fun ds => if ds.length ≤ 1000 then .ok (.d (.tuple ds)) else .bad) := nrfl rfl
@[simp] theorem dispL_ap : dispL fA ρ = (fA ρ >>= fun ds => if ds.length ≤ 1000 then .ok (.ol ds) else .bad) := nrfl rfl
@[simp] theorem callF_ap : callF n gf fA ρ = (fA ρ >>= fun ds => if ds.length = n then gf ds else .bad) := nrfl rfl
@[simp] theorem callB_ap : callB gl fB ρ = (fB ρ >>= gl) := nrfl rfl
@[simp] theorem isi_ap (T : String) : isi T fa ρ = (fa ρ >>= fun a => datS a >>= fun d => match kitB (tyN d) T with | some b => .ok (.d (.bool b)) | none => .bad) := nrfl rfl
@[simp] theorem slice_ap (fl fh : En → R (Option Int)) : slice fa fl fh ρ = (fa ρ >>= fun a => fl ρ >>= fun l => fh ρ >>= fun h => slS a l h) := nrfl rfl
@[simp] theorem noO_ap : noO ρ = .ok none := nrfl rfl
@[simp] theorem someO_ap : someO fa ρ = (fa ρ >>= fun a => match a with | .d (.int i) => .ok (some i) | _ => .bad) := nrfl rfl
@[simp] theorem seqS_ap : seqS f f' ρ = (f ρ >>= fun fl => match fl with | .nx ρ' => f' ρ' | z => .ok z) := nrfl rfl
@[simp] theorem skip_ap : skip ρ = .ok (.nx ρ) := nrfl rfl
@[simp] theorem ifS_ap : ifS ft f f' ρ = (ft ρ >>= fun b => if b = true then f ρ else f' ρ) := nrfl rfl
@[simp] theorem retS_ap : retS fa ρ = (fa ρ >>= fun r => .ok (.rt r)) := nrfl rfl
@[simp] theorem retV_ap : retV i ρ = (peek i ρ >>= fun r => .ok (.rt r)) := nrfl rfl
@[simp] theorem retN_ap : retN ρ = .ok (.rt (.d .none)) := nrfl rfl
@[simp] theorem brkS_ap : brkS ρ = .ok (.bk ρ) := nrfl rfl
@[simp] theorem cntS_ap : cntS ρ = .ok (.ct ρ) := nrfl rfl
@[simp] theorem exprS_ap : exprS fa ρ = (fa ρ >>= fun _ => .ok (.nx ρ)) := nrfl rfl
@[simp] theorem asgS_ap : asgS i fa ρ = (fa ρ >>= fun r => if r.npin = true then .ok (.nx (ρ.set i (some r))) else .bad) := nrfl rfl
@[simp] theorem npin_d (x : D) : SV.npin (.d x) = true := nrfl rfl
@[simp] theorem npin_ol (x : List D) : SV.npin (.ol x) = true := nrfl rfl
@[simp] theorem npin_od (x : List (Key × D)) : SV.npin (.od x) = true := nrfl rfl
@[simp] theorem asgG_ap (k : D → En → R En) : asgG k fa ρ = (fa ρ >>= fun r => datS r >>= fun d => match k d ρ with | .ok ρ' => .ok (.nx ρ') | _ => .bad) := nrfl rfl
@[simp] theorem kill_ap (is : List Nat) : kill is f ρ = (f ρ >>= fun fl => match fl with | .nx ρ' => .ok (.nx (killE is ρ')) | .ct ρ' => .ok (.ct (killE is ρ')) | .bk ρ' => .ok (.bk (killE is ρ')) | z => .ok z) := nrfl rfl
@[simp] theorem frzS_ap (is : List Nat) : frzS is f ρ = f (is.foldl (fun ρ i => frzE i ρ) ρ) := nrfl rfl
@[simp] theorem forS_ap (fi : En → R (List D)) (k : D → En → R En) : forS fi k f ρ = (fi ρ >>= fun xs => forF k f xs ρ) := nrfl rfl
@[simp] theorem seqD_ap : seqD fa ρ = (fa ρ >>= fun a => match a with
  | .d (.list xs) => .ok xs
  | .ol xs => .ok xs
  | .d (.tuple xs) => .ok xs
  | .d (.str z) => .ok (z.cps.toList.map fun n => .str ⟨#[n]⟩)
  | _ => .bad) := nrfl rfl
@[simp] theorem rngD1_ap : rngD1 fB ρ = (fB ρ >>= fun a => match a with
  | [.d (.int j)] => if okR j = true then .ok (rng 0 j) else .bad
  | _ => .bad) := nrfl rfl
@[simp] theorem rngD2_ap : rngD2 fB ρ = (fB ρ >>= fun a => match a with
  | [.d (.int i), .d (.int j)] => if okR i = true ∧ okR j = true then .ok (rng i j) else .bad
  | _ => .bad) := nrfl rfl
@[simp] theorem lcE_ap (fi : En → R (List D)) (k : D → En → R En) (vs : List Nat) : lcE fi k ft fa vs ρ = (fi ρ >>= fun xs => if xs.length < sizeLine then lcF k ft fa (wipeE ρ vs) xs >>= fun ys => .ok (.ol ys) else .bad) := nrfl rfl
@[simp] theorem yesT_ap : yesT ρ = .ok true := nrfl rfl
@[simp] theorem setD_ap : setD i d ρ = .ok (ρ.set i (some (.d d))) := nrfl rfl
@[simp] theorem gsN_ap : gsN [] ρ = .ok ρ := nrfl rfl
@[simp] theorem gsC_ap (k : D → En → R En) (ks : List D → En → R En) (ds : List D) : gsC k ks (d :: ds) ρ = (k d ρ >>= ks ds) := nrfl rfl
@[simp] theorem tupG_ap (ks : List D → En → R En) (ds : List D) : tupG n ks (.tuple ds) ρ = if ds.length = n then ks ds ρ else .bad := nrfl rfl
@[simp] theorem tupG_apL (ks : List D → En → R En) (ds : List D) : tupG n ks (.list ds) ρ = if ds.length = n then ks ds ρ else .bad := nrfl rfl
@[simp] theorem getV_ap : getV i ρ = (match ρ[i]? with | some (some (.d x)) => .ok (.d x) | some (some (.sk x)) => .ok (.sk x) | some (some (.sd x)) => .ok (.sd x) | some (some (.so C x)) => .ok (.so C x) | _ => .bad) := nrfl rfl
@[simp] theorem peek_ap : peek i ρ = (match ρ[i]? with | some (some r) => .ok r | _ => .bad) := nrfl rfl
@[simp] theorem appS_ap : appS i fa ρ = (match ρ[i]? with
  | some (some (.ol xs)) => fa ρ >>= fun r => datS r >>= fun d => if xs.length < sizeLine then .ok (.nx (ρ.set i (some (.ol (xs ++ [d]))))) else .bad
  | _ => .bad) := nrfl rfl
@[simp] theorem frzE_ap : frzE i ρ = (match ρ[i]? with | some (some (.ol xs)) => ρ.set i (some (.d (.list xs))) | some (some (.kd xs)) => ρ.set i (some (.sk xs)) | some (some (.od xs)) => ρ.set i (some (.sd xs)) | some (some (.oi C xs)) => ρ.set i (some (.so C xs)) | _ => ρ) := nrfl rfl
@[simp] theorem killE_nil : killE [] ρ = ρ := nrfl rfl
@[simp] theorem killE_cons (is : List Nat) : killE (i :: is) ρ = killE is (ρ.set i none) := nrfl rfl
@[simp] theorem wipeE_nil : wipeE ρ [] = ρ := nrfl rfl
@[simp] theorem wipeE_cons (is : List Nat) : wipeE ρ (i :: is) = (wipeE ρ is).set i none := nrfl rfl
end
/-! ### values -/
def imax (a b : Int) : Int := if b > a then b else a
def imin (a b : Int) : Int := if b < a then b else a
section
variable (a b : Int) (x y : Str) (k : Bool) (xs ys : List D) (neg : Bool) (d e : D)
@[simp] theorem datS_d : datS (.d d) = .ok d := nrfl rfl
@[simp] theorem datS_ol : datS (.ol xs) = .ok (.list xs) := nrfl rfl
@[simp] theorem bool1_b : bool1 (.d (.bool k)) = .ok k := nrfl rfl
@[simp] theorem truS_b : truS (.d (.bool k)) = .ok k := nrfl rfl
@[simp] theorem truS_i : truS (.d (.int a)) = .ok (a != 0) := nrfl rfl
@[simp] theorem truS_n : truS (.d .none) = .ok false := nrfl rfl
@[simp] theorem truS_l : truS (.d (.list xs)) = .ok (!xs.isEmpty) := nrfl rfl
@[simp] theorem truS_t : truS (.d (.tuple xs)) = .ok (!xs.isEmpty) := nrfl rfl
@[simp] theorem truS_ol : truS (.ol xs) = .ok (!xs.isEmpty) := nrfl rfl
@[simp] theorem addS_i : addS (.d (.int a)) (.d (.int b)) = .ok (.d (.int (a + b))) := nrfl rfl
@[simp] theorem subS_i : subS (.d (.int a)) (.d (.int b)) = .ok (.d (.int (a - b))) := nrfl rfl
@[simp] theorem mulS_i : mulS (.d (.int a)) (.d (.int b)) = if (okM a || okM b) = true then .ok (.d (.int (a * b))) else .bad := nrfl rfl
@[simp] theorem mulA_i : mulA (.d (.int a)) (.d (.int b)) = if (okM a || okM b) = true then .ok (.d (.int (a * b))) else .bad := nrfl rfl
@[simp] theorem revS_ol : revS (.ol xs) = .ok (.ol xs.reverse) := nrfl rfl
@[simp] theorem revS_l : revS (.d (.list xs)) = .ok (.ol xs.reverse) := nrfl rfl
@[simp] theorem isbS_d (l : Bool) : isbS neg (.d d) (.d (.bool l)) = .ok (.d (.bool (if neg then !isbD d l else isbD d l))) := nrfl rfl
@[simp] theorem isbS_ol (l : Bool) : isbS neg (.ol xs) (.d (.bool l)) = .ok (.d (.bool (if neg then !isbD (.list xs) l else isbD (.list xs) l))) := nrfl rfl
@[simp] theorem isbD_b (l : Bool) : isbD (.bool k) l = decide (k = l) := nrfl rfl
@[simp] theorem isbD_i (l : Bool) : isbD (.int a) l = false := nrfl rfl
@[simp] theorem isbD_s (l : Bool) : isbD (.str x) l = false := nrfl rfl
@[simp] theorem isbD_n (l : Bool) : isbD .none l = false := nrfl rfl
@[simp] theorem isbD_l (l : Bool) : isbD (.list xs) l = false := nrfl rfl
@[simp] theorem isbD_t (l : Bool) : isbD (.tuple xs) l = false := nrfl rfl
@[simp] theorem modS_i : modS (.d (.int a)) (.d (.int b)) = if 0 < b then .ok (.d (.int (a % b))) else .bad := nrfl rfl
@[simp] theorem fdivS_i : fdivS (.d (.int a)) (.d (.int b)) = if 0 < b ∧ b < 1073741824 then .ok (.d (.int (a / b))) else .bad := nrfl rfl
@[simp] theorem powS_10_18 : powS (.d (.int 10)) (.d (.int 18)) = .ok (.d (.int 1000000000000000000)) := nrfl rfl
@[simp] theorem ltS_i : ltS (.d (.int a)) (.d (.int b)) = .ok (.d (.bool (decide (a < b)))) := nrfl rfl
@[simp] theorem leS_i : leS (.d (.int a)) (.d (.int b)) = .ok (.d (.bool (decide (a ≤ b)))) := nrfl rfl
@[simp] theorem gtS_i : gtS (.d (.int a)) (.d (.int b)) = .ok (.d (.bool (decide (b < a)))) := nrfl rfl
@[simp] theorem geS_i : geS (.d (.int a)) (.d (.int b)) = .ok (.d (.bool (decide (b ≤ a)))) := nrfl rfl
@[simp] theorem negS_i : negS (.d (.int a)) = .ok (.d (.int (-a))) := nrfl rfl
@[simp] theorem eqS_i : eqS neg (.d (.int a)) (.d (.int b)) = .ok (.d (.bool (if neg then !decide (a = b) else decide (a = b)))) := nrfl rfl
@[simp] theorem eqS_s : eqS neg (.d (.str x)) (.d (.str y)) = .ok (.d (.bool (if neg then !decide (x = y) else decide (x = y)))) := nrfl rfl
@[simp] theorem eqS_b (l : Bool) : eqS neg (.d (.bool k)) (.d (.bool l)) = .ok (.d (.bool (if neg then !decide (k = l) else decide (k = l)))) := nrfl rfl
@[simp] theorem isnS_d : isnS neg (.d d) (.d .none) = .ok (.d (.bool (if neg then !isN d else isN d))) := nrfl rfl
@[simp] theorem isnS_ol : isnS neg (.ol xs) (.d .none) = .ok (.d (.bool neg)) := nrfl rfl
@[simp] theorem isN_n : isN .none = true := nrfl rfl
@[simp] theorem isN_i : isN (.int a) = false := nrfl rfl
@[simp] theorem isN_b : isN (.bool k) = false := nrfl rfl
@[simp] theorem isN_s : isN (.str x) = false := nrfl rfl
@[simp] theorem isN_t : isN (.tuple xs) = false := nrfl rfl
@[simp] theorem isN_l : isN (.list xs) = false := nrfl rfl
@[simp] theorem lenS_l : lenS [.d (.list xs)] = .ok (.d (.int xs.length)) := nrfl rfl
@[simp] theorem lenS_ol : lenS [.ol xs] = .ok (.d (.int xs.length)) := nrfl rfl
@[simp] theorem lenS_t : lenS [.d (.tuple xs)] = .ok (.d (.int xs.length)) := nrfl rfl
@[simp] theorem intS_i : intS [.d (.int a)] = .ok (.d (.int a)) := nrfl rfl
@[simp] theorem intS_b : intS [.d (.bool k)] = .ok (.d (.int (if k then 1 else 0))) := nrfl rfl
@[simp] theorem max2S_i : max2S [.d (.int a), .d (.int b)] = .ok (.d (.int (imax a b))) := nrfl rfl
@[simp] theorem min2S_i : min2S [.d (.int a), .d (.int b)] = .ok (.d (.int (imin a b))) := nrfl rfl
@[simp] theorem listS_l : listS [.d (.list xs)] = .ok (.ol xs) := nrfl rfl
@[simp] theorem listS_ol : listS [.ol xs] = .ok (.ol xs) := nrfl rfl
@[simp] theorem listS_t : listS [.d (.tuple xs)] = .ok (.ol xs) := nrfl rfl
@[simp] theorem tupS_l : tupS [.d (.list xs)] = .ok (.d (.tuple xs)) := nrfl rfl
@[simp] theorem tupS_ol : tupS [.ol xs] = .ok (.d (.tuple xs)) := nrfl rfl
@[simp] theorem tupS_t : tupS [.d (.tuple xs)] = .ok (.d (.tuple xs)) := nrfl rfl
@[simp] theorem ixS_l : ixS (.d (.list xs)) (.d (.int a)) = (match atI xs a with | some d => .ok (.d d) | none => .bad) := nrfl rfl
@[simp] theorem ixS_ol : ixS (.ol xs) (.d (.int a)) = (match atI xs a with | some d => .ok (.d d) | none => .bad) := nrfl rfl
@[simp] theorem ixS_t : ixS (.d (.tuple xs)) (.d (.int a)) = (match atI xs a with | some d => .ok (.d d) | none => .bad) := nrfl rfl
@[simp] theorem slS_l (lo hi : Option Int) : slS (.d (.list xs)) lo hi = .ok (.ol (cutD xs lo hi)) := nrfl rfl
@[simp] theorem slS_ol (lo hi : Option Int) : slS (.ol xs) lo hi = .ok (.ol (cutD xs lo hi)) := nrfl rfl
@[simp] theorem slS_t (lo hi : Option Int) : slS (.d (.tuple xs)) lo hi = .ok (.d (.tuple (cutD xs lo hi))) := nrfl rfl
@[simp] theorem tyN_i : tyN (.int a) = "int" := nrfl rfl
@[simp] theorem tyN_b : tyN (.bool k) = "bool" := nrfl rfl
@[simp] theorem tyN_s : tyN (.str x) = "str" := nrfl rfl
@[simp] theorem tyN_n : tyN .none = "NoneType" := nrfl rfl
@[simp] theorem tyN_l : tyN (.list xs) = "list" := nrfl rfl
@[simp] theorem tyN_t : tyN (.tuple xs) = "tuple" := nrfl rfl
end
@[simp] theorem kit_ii : kitB "int" "int" = some true := by decide +kernel
@[simp] theorem kit_ib : kitB "int" "bool" = some false := by decide +kernel
@[simp] theorem kit_is : kitB "int" "str" = some false := by decide +kernel
@[simp] theorem kit_it : kitB "int" "tuple" = some false := by decide +kernel
@[simp] theorem kit_il : kitB "int" "list" = some false := by decide +kernel
@[simp] theorem kit_bi : kitB "bool" "int" = some true := by decide +kernel
@[simp] theorem kit_bb : kitB "bool" "bool" = some true := by decide +kernel
@[simp] theorem kit_bs : kitB "bool" "str" = some false := by decide +kernel
@[simp] theorem kit_bt : kitB "bool" "tuple" = some false := by decide +kernel
@[simp] theorem kit_bl : kitB "bool" "list" = some false := by decide +kernel
@[simp] theorem kit_si : kitB "str" "int" = some false := by decide +kernel
@[simp] theorem kit_sb : kitB "str" "bool" = some false := by decide +kernel
@[simp] theorem kit_ss : kitB "str" "str" = some true := by decide +kernel
@[simp] theorem kit_st : kitB "str" "tuple" = some false := by decide +kernel
@[simp] theorem kit_sl : kitB "str" "list" = some false := by decide +kernel
@[simp] theorem kit_ni : kitB "NoneType" "int" = some false := by decide +kernel
@[simp] theorem kit_nb : kitB "NoneType" "bool" = some false := by decide +kernel
@[simp] theorem kit_ns : kitB "NoneType" "str" = some false := by decide +kernel
@[simp] theorem kit_nt : kitB "NoneType" "tuple" = some false := by decide +kernel
@[simp] theorem kit_nl : kitB "NoneType" "list" = some false := by decide +kernel
@[simp] theorem kit_ti : kitB "tuple" "int" = some false := by decide +kernel
@[simp] theorem kit_tb : kitB "tuple" "bool" = some false := by decide +kernel
@[simp] theorem kit_ts : kitB "tuple" "str" = some false := by decide +kernel
@[simp] theorem kit_tt : kitB "tuple" "tuple" = some true := by decide +kernel
@[simp] theorem kit_tl : kitB "tuple" "list" = some false := by decide +kernel
@[simp] theorem kit_li : kitB "list" "int" = some false := by decide +kernel
@[simp] theorem kit_lb : kitB "list" "bool" = some false := by decide +kernel
@[simp] theorem kit_ls : kitB "list" "str" = some false := by decide +kernel
@[simp] theorem kit_lt : kitB "list" "tuple" = some false := by decide +kernel
@[simp] theorem kit_ll : kitB "list" "list" = some true := by decide +kernel
@[simp] theorem okR_0 : okR 0 = true := okR_of (by omega) (by omega)
@[simp] theorem okR_1 : okR 1 = true := okR_of (by omega) (by omega)
@[simp] theorem okR_2 : okR 2 = true := okR_of (by omega) (by omega)
@[simp] theorem okR_3 : okR 3 = true := okR_of (by omega) (by omega)
@[simp] theorem okR_4 : okR 4 = true := okR_of (by omega) (by omega)
@[simp] theorem okR_5 : okR 5 = true := okR_of (by omega) (by omega)
@[simp] theorem okR_6 : okR 6 = true := okR_of (by omega) (by omega)
@[simp] theorem okR_7 : okR 7 = true := okR_of (by omega) (by omega)
@[simp] theorem okR_8 : okR 8 = true := okR_of (by omega) (by omega)
@[simp] theorem okR_9 : okR 9 = true := okR_of (by omega) (by omega)
@[simp] theorem okR_10 : okR 10 = true := okR_of (by omega) (by omega)
@[simp] theorem okR_11 : okR 11 = true := okR_of (by omega) (by omega)
@[simp] theorem okR_12 : okR 12 = true := okR_of (by omega) (by omega)
@[simp] theorem okR_13 : okR 13 = true := okR_of (by omega) (by omega)
@[simp] theorem okR_14 : okR 14 = true := okR_of (by omega) (by omega)
@[simp] theorem okR_15 : okR 15 = true := okR_of (by omega) (by omega)
@[simp] theorem okR_16 : okR 16 = true := okR_of (by omega) (by omega)
@[simp] theorem okR_17 : okR 17 = true := okR_of (by omega) (by omega)
@[simp] theorem okR_18 : okR 18 = true := okR_of (by omega) (by omega)
@[simp] theorem okR_19 : okR 19 = true := okR_of (by omega) (by omega)
@[simp] theorem okR_20 : okR 20 = true := okR_of (by omega) (by omega)
@[simp] theorem okR_21 : okR 21 = true := okR_of (by omega) (by omega)
@[simp] theorem okR_22 : okR 22 = true := okR_of (by omega) (by omega)
@[simp] theorem okR_23 : okR 23 = true := okR_of (by omega) (by omega)
@[simp] theorem okR_24 : okR 24 = true := okR_of (by omega) (by omega)
@[simp] theorem okR_25 : okR 25 = true := okR_of (by omega) (by omega)
@[simp] theorem okR_26 : okR 26 = true := okR_of (by omega) (by omega)
@[simp] theorem okR_27 : okR 27 = true := okR_of (by omega) (by omega)
@[simp] theorem okR_28 : okR 28 = true := okR_of (by omega) (by omega)
@[simp] theorem okR_29 : okR 29 = true := okR_of (by omega) (by omega)
@[simp] theorem okR_30 : okR 30 = true := okR_of (by omega) (by omega)
@[simp] theorem okR_31 : okR 31 = true := okR_of (by omega) (by omega)
@[simp] theorem okR_32 : okR 32 = true := okR_of (by omega) (by omega)
@[simp] theorem okR_33 : okR 33 = true := okR_of (by omega) (by omega)
@[simp] theorem okR_34 : okR 34 = true := okR_of (by omega) (by omega)
@[simp] theorem okR_35 : okR 35 = true := okR_of (by omega) (by omega)
@[simp] theorem okR_36 : okR 36 = true := okR_of (by omega) (by omega)
@[simp] theorem okR_37 : okR 37 = true := okR_of (by omega) (by omega)
@[simp] theorem okR_38 : okR 38 = true := okR_of (by omega) (by omega)
@[simp] theorem okR_39 : okR 39 = true := okR_of (by omega) (by omega)
@[simp] theorem okR_40 : okR 40 = true := okR_of (by omega) (by omega)
@[simp] theorem okR_60 : okR 60 = true := okR_of (by omega) (by omega)
@[simp] theorem okR_63 : okR 63 = true := okR_of (by omega) (by omega)
@[simp] theorem okR_64 : okR 64 = true := okR_of (by omega) (by omega)
@[simp] theorem okR_100 : okR 100 = true := okR_of (by omega) (by omega)
@[simp] theorem okR_300 : okR 300 = true := okR_of (by omega) (by omega)
@[simp] theorem okR_1000 : okR 1000 = true := okR_of (by omega) (by omega)
@[simp] theorem okM_0 : okM 0 = true := okM_of (by omega) (by omega)
@[simp] theorem okM_1 : okM 1 = true := okM_of (by omega) (by omega)
@[simp] theorem okM_2 : okM 2 = true := okM_of (by omega) (by omega)
@[simp] theorem okM_3 : okM 3 = true := okM_of (by omega) (by omega)
@[simp] theorem okM_4 : okM 4 = true := okM_of (by omega) (by omega)
@[simp] theorem okM_5 : okM 5 = true := okM_of (by omega) (by omega)
@[simp] theorem okM_6 : okM 6 = true := okM_of (by omega) (by omega)
@[simp] theorem okM_7 : okM 7 = true := okM_of (by omega) (by omega)
@[simp] theorem okM_8 : okM 8 = true := okM_of (by omega) (by omega)
@[simp] theorem okM_9 : okM 9 = true := okM_of (by omega) (by omega)
@[simp] theorem okM_10 : okM 10 = true := okM_of (by omega) (by omega)
@[simp] theorem okM_11 : okM 11 = true := okM_of (by omega) (by omega)
@[simp] theorem okM_12 : okM 12 = true := okM_of (by omega) (by omega)
@[simp] theorem okM_13 : okM 13 = true := okM_of (by omega) (by omega)
@[simp] theorem okM_14 : okM 14 = true := okM_of (by omega) (by omega)
@[simp] theorem okM_15 : okM 15 = true := okM_of (by omega) (by omega)
@[simp] theorem okM_16 : okM 16 = true := okM_of (by omega) (by omega)
@[simp] theorem okM_17 : okM 17 = true := okM_of (by omega) (by omega)
@[simp] theorem okM_18 : okM 18 = true := okM_of (by omega) (by omega)
@[simp] theorem okM_19 : okM 19 = true := okM_of (by omega) (by omega)
@[simp] theorem okM_20 : okM 20 = true := okM_of (by omega) (by omega)
@[simp] theorem okM_21 : okM 21 = true := okM_of (by omega) (by omega)
@[simp] theorem okM_22 : okM 22 = true := okM_of (by omega) (by omega)
@[simp] theorem okM_23 : okM 23 = true := okM_of (by omega) (by omega)
@[simp] theorem okM_24 : okM 24 = true := okM_of (by omega) (by omega)
@[simp] theorem okM_25 : okM 25 = true := okM_of (by omega) (by omega)
@[simp] theorem okM_26 : okM 26 = true := okM_of (by omega) (by omega)
@[simp] theorem okM_27 : okM 27 = true := okM_of (by omega) (by omega)
@[simp] theorem okM_28 : okM 28 = true := okM_of (by omega) (by omega)
@[simp] theorem okM_29 : okM 29 = true := okM_of (by omega) (by omega)
@[simp] theorem okM_30 : okM 30 = true := okM_of (by omega) (by omega)
@[simp] theorem okM_31 : okM 31 = true := okM_of (by omega) (by omega)
@[simp] theorem okM_32 : okM 32 = true := okM_of (by omega) (by omega)
@[simp] theorem okM_33 : okM 33 = true := okM_of (by omega) (by omega)
@[simp] theorem okM_34 : okM 34 = true := okM_of (by omega) (by omega)
@[simp] theorem okM_35 : okM 35 = true := okM_of (by omega) (by omega)
@[simp] theorem okM_36 : okM 36 = true := okM_of (by omega) (by omega)
@[simp] theorem okM_37 : okM 37 = true := okM_of (by omega) (by omega)
@[simp] theorem okM_38 : okM 38 = true := okM_of (by omega) (by omega)
@[simp] theorem okM_39 : okM 39 = true := okM_of (by omega) (by omega)
@[simp] theorem okM_40 : okM 40 = true := okM_of (by omega) (by omega)
@[simp] theorem okM_100 : okM 100 = true := okM_of (by omega) (by omega)
@[simp] theorem okM_1000 : okM 1000 = true := okM_of (by omega) (by omega)
@[simp] theorem okM_48271 : okM 48271 = true := okM_of (by omega) (by omega)
@[simp] theorem okM_69621 : okM 69621 = true := okM_of (by omega) (by omega)
@[simp] theorem okM_104729 : okM 104729 = true := okM_of (by omega) (by omega)
@[simp] theorem okM_7919 : okM 7919 = true := okM_of (by omega) (by omega)
@[simp] theorem okM_30103 : okM 30103 = true := okM_of (by omega) (by omega)
@[simp] theorem okM_128 : okM 128 = true := okM_of (by omega) (by omega)
@[simp] theorem okM_977 : okM 977 = true := okM_of (by omega) (by omega)
@[simp] theorem okM_97 : okM 97 = true := okM_of (by omega) (by omega)
@[simp] theorem okM_200 : okM 200 = true := okM_of (by omega) (by omega)
@[simp] theorem okM_295 : okM 295 = true := okM_of (by omega) (by omega)
@[simp] theorem okM_296 : okM 296 = true := okM_of (by omega) (by omega)
@[simp] theorem okM_1000000 : okM 1000000 = true := okM_of (by omega) (by omega)
theorem line16 : (sizeLine : Nat) = 16777216 := sizeLine_eq

/-! ### loops -/
theorem forF_inv {k : D → En → R En} {b : En → R Fl} (Inv : Nat → En → Prop) : ∀ (xs : List D) (ρ : En), Inv 0 ρ → (∀ i x ρ, xs[i]? = some x → Inv i ρ → ∃ ρ1 ρ2, k x ρ = .ok ρ1 ∧ (b ρ1 = .ok (.nx ρ2) ∨ b ρ1 = .ok (.ct ρ2)) ∧ Inv (i + 1) ρ2) → ∃ ρ', forF k b xs ρ = .ok (.nx ρ') ∧ Inv xs.length ρ' := by
  intro xs
  suffices h : ∀ (ys : List D) (i : Nat) (ρ : En), ys = xs.drop i → i ≤ xs.length → Inv i ρ → (∀ i x ρ, xs[i]? = some x → Inv i ρ → ∃ ρ1 ρ2, k x ρ = .ok ρ1 ∧ (b ρ1 = .ok (.nx ρ2) ∨ b ρ1 = .ok (.ct ρ2)) ∧ Inv (i + 1) ρ2) → ∃ ρ', forF k b ys ρ = .ok (.nx ρ') ∧ Inv xs.length ρ' by
    intro ρ h0 hs
    exact h xs 0 ρ (by simp) (Nat.zero_le _) h0 hs
  intro ys
  induction ys with
  | nil =>
    intro i ρ e hi h0 hs
    have : xs.length ≤ i := by
      have := congrArg List.length e
      simp at this; omega
    have e2 : i = xs.length := by omega
    subst e2
    exact ⟨ρ, rfl, h0⟩
  | cons y ys ih =>
    intro i ρ e hi h0 hs
    have hlt : i < xs.length := by
      have := congrArg List.length e
      simp at this; omega
    rw [List.drop_eq_getElem_cons hlt] at e
    injection e with e1 e2
    obtain ⟨ρ1, ρ2, h1, h2, h3⟩ := hs i y ρ (by rw [e1]; exact List.getElem?_eq_getElem hlt) h0
    obtain ⟨ρ', h4, h5⟩ := ih (i + 1) ρ2 e2 hlt h3 hs
    refine ⟨ρ', ?_, h5⟩
    unfold forF
    simp only [h1]
    rcases h2 with h2 | h2
    · rw [h2]; exact h4
    · rw [h2]; exact h4
/-- a loop whose every turn goes through, by a typed state -/
theorem forF_fold {S : Type} {k : D → En → R En} {b : En → R Fl} (enc : S → En) (stp : S → D → S) : ∀ (xs : List D) (s : S), (∀ s x, x ∈ xs → ∃ ρ1, k x (enc s) = .ok ρ1 ∧ b ρ1 = .ok (.nx (enc (stp s x)))) → forF k b xs (enc s) = .ok (.nx (enc (xs.foldl stp s)))
  | [], s, _ => rfl
  | x :: xs, s, h => by
    obtain ⟨ρ1, h1, h2⟩ := h s x List.mem_cons_self
    unfold forF
    simp only [h1, h2, ok_bind, List.foldl_cons]
    exact forF_fold enc stp xs _ fun s x hx => h s x (List.mem_cons_of_mem _ hx)
theorem lcF_map {k : D → En → R En} {t : En → R Bool} {e : En → R SV} {ρ0 : En} (p : D → Bool) (g : D → D) : ∀ (xs : List D), (∀ x, x ∈ xs → ∃ ρ1, k x ρ0 = .ok ρ1 ∧ t ρ1 = .ok (p x) ∧ (p x = true → ∃ r, e ρ1 = .ok r ∧ datS r = .ok (g x))) → lcF k t e ρ0 xs = .ok ((xs.filter p).map g)
  | [], _ => rfl
  | x :: xs, h => by
    obtain ⟨ρ1, h1, h2, h3⟩ := h x List.mem_cons_self
    have ih := lcF_map (k := k) (t := t) (e := e) (ρ0 := ρ0) p g xs fun x hx => h x (List.mem_cons_of_mem _ hx)
    unfold lcF
    simp only [h1, h2, ok_bind]
    cases hp : p x with
    | false =>
      rw [List.filter_cons_of_neg (by simp [hp])]
      simpa using ih
    | true =>
      obtain ⟨r, h4, h5⟩ := h3 hp
      rw [List.filter_cons_of_pos hp]
      simp [h4, h5, ih]
@[simp] theorem rng_len (lo hi : Int) : (rng lo hi).length = (hi - lo).toNat := by unfold rng; simp
theorem rng_at {lo hi : Int} {i : Nat} {x : D} (h : (rng lo hi)[i]? = some x) : x = .int (lo + (i : Nat)) ∧ i < (hi - lo).toNat := by
  unfold rng at h
  rw [List.getElem?_map] at h
  cases e : (List.range (hi - lo).toNat)[i]? with
  | none => rw [e] at h; cases h
  | some j =>
    rw [e] at h
    obtain ⟨h1, h2⟩ := List.getElem?_eq_some_iff.mp e
    rw [List.length_range] at h1
    rw [List.getElem_range] at h2
    subst h2
    cases h
    exact ⟨rfl, h1⟩
theorem atI_of {α : Type} {xs : List α} {i : Int} (h0 : 0 ≤ i) (h1 : i < xs.length) : atI xs i = some (xs[i.toNat]'(by omega)) := by
  have q : atI xs ((i.toNat : Nat) : Int) = some (xs[i.toNat]'(by omega)) := atI_nat (List.getElem?_eq_getElem _)
  rw [Int.toNat_of_nonneg h0] at q
  exact q

theorem atI_cast {α : Type} (xs : List α) (n : Nat) : atI xs (n : Int) = xs[n]? := by
  by_cases h : n < xs.length
  · rw [List.getElem?_eq_getElem h]; exact atI_nat (List.getElem?_eq_getElem h)
  · rw [List.getElem?_eq_none (by omega)]
    unfold atI ixN
    rw [if_pos (by omega), if_neg (by omega)] <;> rfl
@[simp] theorem atI_0 {α : Type} (xs : List α) : atI xs 0 = xs[0]? := atI_cast xs 0
@[simp] theorem atI_1 {α : Type} (xs : List α) : atI xs 1 = xs[1]? := atI_cast xs 1
@[simp] theorem atI_2 {α : Type} (xs : List α) : atI xs 2 = xs[2]? := atI_cast xs 2
@[simp] theorem atI_3 {α : Type} (xs : List α) : atI xs 3 = xs[3]? := atI_cast xs 3
@[simp] theorem atI_4 {α : Type} (xs : List α) : atI xs 4 = xs[4]? := atI_cast xs 4
@[simp] theorem atI_5 {α : Type} (xs : List α) : atI xs 5 = xs[5]? := atI_cast xs 5
@[simp] theorem atI_6 {α : Type} (xs : List α) : atI xs 6 = xs[6]? := atI_cast xs 6
@[simp] theorem atI_7 {α : Type} (xs : List α) : atI xs 7 = xs[7]? := atI_cast xs 7
@[simp] theorem atI_8 {α : Type} (xs : List α) : atI xs 8 = xs[8]? := atI_cast xs 8
@[simp] theorem atI_9 {α : Type} (xs : List α) : atI xs 9 = xs[9]? := atI_cast xs 9
@[simp] theorem atI_10 {α : Type} (xs : List α) : atI xs 10 = xs[10]? := atI_cast xs 10
@[simp] theorem atI_11 {α : Type} (xs : List α) : atI xs 11 = xs[11]? := atI_cast xs 11
@[simp] theorem atI_12 {α : Type} (xs : List α) : atI xs 12 = xs[12]? := atI_cast xs 12
@[simp] theorem atI_13 {α : Type} (xs : List α) : atI xs 13 = xs[13]? := atI_cast xs 13
@[simp] theorem atI_14 {α : Type} (xs : List α) : atI xs 14 = xs[14]? := atI_cast xs 14
@[simp] theorem atI_15 {α : Type} (xs : List α) : atI xs 15 = xs[15]? := atI_cast xs 15
@[simp] theorem atI_16 {α : Type} (xs : List α) : atI xs 16 = xs[16]? := atI_cast xs 16
@[simp] theorem atI_17 {α : Type} (xs : List α) : atI xs 17 = xs[17]? := atI_cast xs 17
@[simp] theorem atI_18 {α : Type} (xs : List α) : atI xs 18 = xs[18]? := atI_cast xs 18
@[simp] theorem atI_19 {α : Type} (xs : List α) : atI xs 19 = xs[19]? := atI_cast xs 19
@[simp] theorem atI_20 {α : Type} (xs : List α) : atI xs 20 = xs[20]? := atI_cast xs 20
@[simp] theorem atI_21 {α : Type} (xs : List α) : atI xs 21 = xs[21]? := atI_cast xs 21
@[simp] theorem atI_22 {α : Type} (xs : List α) : atI xs 22 = xs[22]? := atI_cast xs 22
@[simp] theorem atI_23 {α : Type} (xs : List α) : atI xs 23 = xs[23]? := atI_cast xs 23
@[simp] theorem atI_24 {α : Type} (xs : List α) : atI xs 24 = xs[24]? := atI_cast xs 24
@[simp] theorem atI_25 {α : Type} (xs : List α) : atI xs 25 = xs[25]? := atI_cast xs 25
@[simp] theorem atI_26 {α : Type} (xs : List α) : atI xs 26 = xs[26]? := atI_cast xs 26
@[simp] theorem atI_27 {α : Type} (xs : List α) : atI xs 27 = xs[27]? := atI_cast xs 27
@[simp] theorem atI_28 {α : Type} (xs : List α) : atI xs 28 = xs[28]? := atI_cast xs 28
@[simp] theorem atI_29 {α : Type} (xs : List α) : atI xs 29 = xs[29]? := atI_cast xs 29
@[simp] theorem atI_30 {α : Type} (xs : List α) : atI xs 30 = xs[30]? := atI_cast xs 30
@[simp] theorem atI_31 {α : Type} (xs : List α) : atI xs 31 = xs[31]? := atI_cast xs 31
@[simp] theorem atI_32 {α : Type} (xs : List α) : atI xs 32 = xs[32]? := atI_cast xs 32
@[simp] theorem atI_33 {α : Type} (xs : List α) : atI xs 33 = xs[33]? := atI_cast xs 33
@[simp] theorem atI_34 {α : Type} (xs : List α) : atI xs 34 = xs[34]? := atI_cast xs 34
@[simp] theorem atI_35 {α : Type} (xs : List α) : atI xs 35 = xs[35]? := atI_cast xs 35
@[simp] theorem atI_36 {α : Type} (xs : List α) : atI xs 36 = xs[36]? := atI_cast xs 36
@[simp] theorem atI_37 {α : Type} (xs : List α) : atI xs 37 = xs[37]? := atI_cast xs 37
@[simp] theorem atI_38 {α : Type} (xs : List α) : atI xs 38 = xs[38]? := atI_cast xs 38
@[simp] theorem atI_39 {α : Type} (xs : List α) : atI xs 39 = xs[39]? := atI_cast xs 39
@[simp] theorem atI_40 {α : Type} (xs : List α) : atI xs 40 = xs[40]? := atI_cast xs 40
/-! ### drawn numbers -/
def drawsB : En → R Fl :=
    (seqS (asgS 2 (dispL nilA))
    (seqS (asgS 3 (callB intS (conB (peek 0) nilB)))
    (seqS (ifS (asT (bin geS (peek 3) (bin powS (kon (.int 10)) (kon (.int 18))))) (forS (rngD1 (conB (peek 1) nilB)) (setD 4) (kill [4] (ifS (asT (bin gtS (peek 3) (kon (.int 0)))) (seqS (appS 2 (bin modS (callB intS (conB (peek 3) nilB)) (kon (.int 1000))))
    (asgS 3 (bin fdivS (peek 3) (kon (.int 1000))))) skip))) skip)
    (seqS (asgS 5 (bin modS (callB intS (conB (bin addS (bin mulA (callB intS (conB (peek 0) nilB)) (kon (.int 48271))) (kon (.int 11))) nilB)) (kon (.int 2147483647))))
    (seqS (forS (rngD1 (conB (peek 1) nilB)) (setD 4) (kill [4] (seqS (asgS 5 (bin modS (callB intS (conB (bin addS (bin addS (bin mulA (peek 5) (kon (.int 48271))) (bin mulA (peek 4) (kon (.int 69621)))) (kon (.int 7))) nilB)) (kon (.int 2147483647))))
    (ifS (asT (bin ltS (callB lenS (conB (peek 2) nilB)) (peek 1))) (appS 2 (bin modS (callB intS (conB (bin modS (callB intS (conB (bin addS (bin mulA (peek 5) (kon (.int 69621))) (kon (.int 5))) nilB)) (kon (.int 2147483629))) nilB)) (kon (.int 1000)))) skip))))
    (retV 2))))))
def drawsF : List D → R SV := runB 2 6 drawsB
def Small (ns : List Int) : Prop := ∀ x ∈ ns, 0 ≤ x ∧ x < 1000
theorem Small.app {ns : List Int} (h : Small ns) {x : Int} (h0 : 0 ≤ x) (h1 : x < 1000) : Small (ns ++ [x]) := fun y hy => by
  rcases List.mem_append.mp hy with z | z
  · exact h y z
  · simp at z; subst z; exact ⟨h0, h1⟩
def drA : En → R Fl := kill [4] (ifS (asT (bin gtS (peek 3) (kon (.int 0)))) (seqS (appS 2 (bin modS (callB intS (conB (peek 3) nilB)) (kon (.int 1000))))
    (asgS 3 (bin fdivS (peek 3) (kon (.int 1000))))) skip)
def drB : En → R Fl := kill [4] (seqS (asgS 5 (bin modS (callB intS (conB (bin addS (bin addS (bin mulA (peek 5) (kon (.int 48271))) (bin mulA (peek 4) (kon (.int 69621)))) (kon (.int 7))) nilB)) (kon (.int 2147483647))))
    (ifS (asT (bin ltS (callB lenS (conB (peek 2) nilB)) (peek 1))) (appS 2 (bin modS (callB intS (conB (bin modS (callB intS (conB (bin addS (bin mulA (peek 5) (kon (.int 69621))) (kon (.int 5))) nilB)) (kon (.int 2147483629))) nilB)) (kon (.int 1000)))) skip))
theorem drA_step (c m rest : Int) (rows : List Int) (i : Int) (hlt : rows.length < sizeLine) (hs : Small rows) : ∃ (rows' : List Int) (rest' : Int), drA [some (.d (.int c)), some (.d (.int m)), some (.ol (rows.map PyData.int)), some (.d (.int rest)), some (.d (.int i)), none]
    = .ok (.nx [some (.d (.int c)), some (.d (.int m)), some (.ol (rows'.map PyData.int)), some (.d (.int rest')), none, none]) ∧ rows'.length ≤ rows.length + 1 ∧ Small rows' := by
  unfold drA
  by_cases hr : 0 < rest
  · exact ⟨rows ++ [rest % 1000], rest / 1000, by simp [hr, hlt], by simp, hs.app (by omega) (by omega)⟩
  · exact ⟨rows, rest, by simp [hr], by omega, hs⟩
theorem drB_step (c m rest st : Int) (rows : List Int) (i : Int) (hlt : rows.length < sizeLine) (hs : Small rows) : ∃ (rows' : List Int) (st' : Int), drB [some (.d (.int c)), some (.d (.int m)), some (.ol (rows.map PyData.int)), some (.d (.int rest)), some (.d (.int i)), some (.d (.int st))]
    = .ok (.nx [some (.d (.int c)), some (.d (.int m)), some (.ol (rows'.map PyData.int)), some (.d (.int rest)), none, some (.d (.int st'))]) ∧ ((rows.length : Int) < m → rows'.length = rows.length + 1) ∧ (¬ (rows.length : Int) < m → rows'.length = rows.length) ∧ Small rows' := by
  unfold drB
  generalize hq : (2147483647 : Int) = q
  have q0 : 0 < q := by omega
  generalize hp : (2147483629 : Int) = p
  have p0 : 0 < p := by omega
  by_cases hr : (rows.length : Int) < m
  · exact ⟨rows ++ [((st * 48271 + i * 69621 + 7) % q * 69621 + 5) % p % 1000], (st * 48271 + i * 69621 + 7) % q, by simp [hr, hlt, q0, p0], fun _ => by simp, fun z => absurd hr z, hs.app (by omega) (by omega)⟩
  · exact ⟨rows, (st * 48271 + i * 69621 + 7) % q, by simp [hr, q0], fun z => absurd z hr, fun _ => rfl, hs⟩
theorem draws1 (c m : Int) (h0 : 0 ≤ m) (hm : m ≤ 1000) : ∃ (rows : List Int) (rest : Int), forF (setD 4) drA (rng 0 m) [some (.d (.int c)), some (.d (.int m)), some (.ol []), some (.d (.int c)), none, none]
      = .ok (.nx [some (.d (.int c)), some (.d (.int m)), some (.ol (rows.map PyData.int)), some (.d (.int rest)), none, none]) ∧ rows.length ≤ m.toNat ∧ Small rows := by
  have hz := line16
  obtain ⟨ρ', h1, rows, rest, h2, h3, h4⟩ := forF_inv (k := setD 4) (b := drA) (fun i ρ => ∃ (rows : List Int) (rest : Int), ρ = [some (.d (.int c)), some (.d (.int m)), some (.ol (rows.map PyData.int)), some (.d (.int rest)), none, none] ∧ rows.length ≤ i ∧ Small rows) (rng 0 m) _ ⟨[], c, rfl, by simp, fun _ h => nomatch h⟩ (by
      rintro i x _ hx ⟨rows, rest, rfl, hl, hs⟩
      obtain ⟨rfl, hi⟩ := rng_at hx
      obtain ⟨rows', rest', e, h1, h2⟩ := drA_step c m rest rows (0 + (i : Nat)) (by omega) hs
      exact ⟨_, _, rfl, .inl e, rows', rest', rfl, by omega, h2⟩)
  refine ⟨rows, rest, ?_, by simpa using h3, h4⟩
  rw [← h2]; exact h1
theorem draws2 (c m rest st : Int) (rows : List Int) (h0 : 0 ≤ m) (hm : m ≤ 1000) (hl : rows.length ≤ m.toNat) (hs : Small rows) : ∃ (rows' : List Int) (st' : Int), forF (setD 4) drB (rng 0 m) [some (.d (.int c)), some (.d (.int m)), some (.ol (rows.map PyData.int)), some (.d (.int rest)), none, some (.d (.int st))]
      = .ok (.nx [some (.d (.int c)), some (.d (.int m)), some (.ol (rows'.map PyData.int)), some (.d (.int rest)), none, some (.d (.int st'))]) ∧ rows'.length = m.toNat ∧ Small rows' := by
  have hz := line16
  obtain ⟨ρ', e2, st, rows2, e3, h3, h4, h5⟩ := forF_inv (k := setD 4) (b := drB) (fun i ρ => ∃ (st : Int) (rows : List Int), ρ = [some (.d (.int c)), some (.d (.int m)), some (.ol (rows.map PyData.int)), some (.d (.int rest)), none, some (.d (.int st))] ∧ i ≤ rows.length ∧ rows.length ≤ m.toNat ∧ Small rows) (rng 0 m) _ ⟨st, rows, rfl, Nat.zero_le _, hl, hs⟩ (by
      rintro i x _ hx ⟨st, rows, rfl, h1, h2, hs⟩
      obtain ⟨rfl, hi⟩ := rng_at hx
      obtain ⟨rows', st', e, g1, g2, g3⟩ := drB_step c m rest st rows (0 + (i : Nat)) (by omega) hs
      refine ⟨_, _, rfl, .inl e, st', rows', rfl, ?_⟩
      by_cases hr : (rows.length : Int) < m
      · have := g1 hr; exact ⟨by omega, by omega, g3⟩
      · have := g2 hr; exact ⟨by omega, by omega, g3⟩)
  rw [rng_len] at h3
  refine ⟨rows2, st, ?_, by omega, h5⟩
  rw [← e3]; exact e2
theorem drawsB_eq : drawsB = (seqS (asgS 2 (dispL nilA))
    (seqS (asgS 3 (callB intS (conB (peek 0) nilB)))
    (seqS (ifS (asT (bin geS (peek 3) (bin powS (kon (.int 10)) (kon (.int 18))))) (forS (rngD1 (conB (peek 1) nilB)) (setD 4) drA) skip)
    (seqS (asgS 5 (bin modS (callB intS (conB (bin addS (bin mulA (callB intS (conB (peek 0) nilB)) (kon (.int 48271))) (kon (.int 11))) nilB)) (kon (.int 2147483647))))
    (seqS (forS (rngD1 (conB (peek 1) nilB)) (setD 4) drB)
    (retV 2)))))) := rfl
theorem draws_ok (c : Int) (m : Int) (h0 : 0 ≤ m) (hm : m ≤ 1000) : ∃ ns : List Int, drawsF [.int c, .int m] = .ok (.ol (ns.map PyData.int)) ∧ ns.length = m.toNat ∧ Small ns := by
  have hb : okR m = true := okR_of (by omega) (by omega)
  unfold drawsF runB startE
  rw [drawsB_eq]
  generalize hq : (2147483647 : Int) = q
  have q0 : 0 < q := by omega
  by_cases hc : 1000000000000000000 ≤ c
  · obtain ⟨rows, rest, e1, hl, hs⟩ := draws1 c m h0 hm
    obtain ⟨rows', st', e2, hl2, hs2⟩ := draws2 c m rest ((c * 48271 + 11) % q) rows h0 hm hl hs
    exact ⟨rows', by simp [hc, hb, e1, e2, q0], hl2, hs2⟩
  · obtain ⟨rows', st', e2, hl2, hs2⟩ := draws2 c m c ((c * 48271 + 11) % q) [] h0 hm (Nat.zero_le _) (fun _ h => nomatch h)
    exact ⟨rows', by simp at e2; simp [hc, hb, e2, q0], hl2, hs2⟩
/-- a cell of the script, 0 behind its end -/
def cellB : En → R Fl :=
    (seqS (ifS (asT (bin ltS (peek 1) (callB lenS (conB (peek 0) nilB)))) (retS (callB intS (conB (bin ixS (peek 0) (peek 1)) nilB))) skip)
    (retS (kon (.int 0))))
def cellF : List D → R SV := runB 2 2 cellB
theorem cell_ok (ns : List Int) (k : Int) (hk : 0 ≤ k) : ∃ c : Int, cellF [.list (ns.map PyData.int), .int k] = .ok (.d (.int c)) := by
  unfold cellF runB cellB startE
  by_cases h : k < ns.length
  · refine ⟨ns[k.toNat]'(by omega), ?_⟩
    have e : atI (ns.map PyData.int) k = some (.int (ns[k.toNat]'(by omega))) := by
      rw [atI_of hk (by simpa using h)]; simp
    simp [h, e]
  · exact ⟨0, by simp [h]⟩
end Pl
namespace Pl
open PySem PySem.Spec PyProof.Rows L2
/-! ### lists of ints -/
theorem plain_ints : ∀ ns : List Int, PyData.plainAll (ns.map PyData.int) = true
  | [] => rfl
  | n :: r => by
    show (PyData.plain (.int n) && PyData.plainAll (r.map PyData.int)) = true
    rw [plain_ints r]; rfl
theorem depth_ints : ∀ ns : List Int, PyData.depthAll (ns.map PyData.int) = 0
  | [] => rfl
  | n :: r => by
    show max (PyData.depth (.int n)) (PyData.depthAll (r.map PyData.int)) = 0
    rw [depth_ints r]; rfl
theorem shp_of {d : D} (h1 : PyData.plain d = true) (h2 : PyData.depth d ≤ 60) : shpD d = true := by
  unfold shpD
  rw [h1, decide_eq_true h2]; rfl
theorem shaped_ints (ns : List Int) : shpD (.list (ns.map PyData.int)) = true := by
  refine shp_of (plain_ints ns) ?_
  show PyData.depthAll (ns.map PyData.int) + 1 ≤ 60
  rw [depth_ints]; omega
theorem eqv_int (a b : Int) : PyData.eqv (.int a) (.int b) = (a == b) := by simp [PyData.eqv]
theorem eqvAll_ints : ∀ ns ms : List Int, PyData.eqvAll (ns.map PyData.int) (ms.map PyData.int) = decide (ns = ms)
  | [], [] => by simp [PyData.eqvAll]
  | [], _ :: _ => by simp [PyData.eqvAll]
  | _ :: _, [] => by simp [PyData.eqvAll]
  | n :: r, m :: q => by
    show (PyData.eqvAll (.int n :: r.map PyData.int) (.int m :: q.map PyData.int)) = _
    rw [PyData.eqvAll, eqvAll_ints r q, eqv_int]
    by_cases h : n = m <;> by_cases h2 : r = q <;> simp [h, h2]
theorem eqv_ints (ns ms : List Int) : PyData.eqv (.list (ns.map PyData.int)) (.list (ms.map PyData.int)) = decide (ns = ms) := by
  rw [PyData.eqv]; exact eqvAll_ints ns ms
theorem eqS_ints (neg : Bool) (ns ms : List Int) : eqS neg (.ol (ns.map PyData.int)) (.ol (ms.map PyData.int)) = .ok (.d (.bool (if neg then !decide (ns = ms) else decide (ns = ms)))) := by
  show eqG neg _ _ = _
  unfold eqG
  simp [shaped_ints, eqv_ints]
/-- the ints from a on, before b -/
def irng (a b : Int) : List Int := (List.range (b - a).toNat).map fun k => a + (k : Nat)
theorem rng_irng (a b : Int) : rng a b = (irng a b).map PyData.int := by unfold rng irng; rw [List.map_map]; rfl
theorem irng_nil {a b : Int} (h : b ≤ a) : irng a b = [] := by
  unfold irng
  rw [show (b - a).toNat = 0 by omega]; rfl
theorem irng_cons {a b : Int} (h : a < b) : irng a b = a :: irng (a + 1) b := by
  unfold irng
  rw [show (b - a).toNat = (b - (a + 1)).toNat + 1 by omega, List.range_succ_eq_map]
  simp only [List.map_cons, List.map_map]
  congr 1
  · omega
  · apply List.map_congr_left
    intro k _
    show a + ((k + 1 : Nat) : Int) = a + 1 + (k : Nat)
    omega
theorem irng_mem {a b x : Int} (h : x ∈ irng a b) : a ≤ x ∧ x < b := by
  unfold irng at h
  obtain ⟨k, hk, rfl⟩ := List.mem_map.mp h
  have := List.mem_range.mp hk
  omega
theorem irng_len (a b : Int) : (irng a b).length = (b - a).toNat := by unfold irng; simp
theorem irng_skip (p : Int → Bool) {a a' b : Int} (h : a ≤ a') (hn : ∀ x, a ≤ x → x < a' → p x = false) : (irng a b).filter p = (irng a' b).filter p := by
  generalize hk : (a' - a).toNat = k
  induction k generalizing a with
  | zero => rw [show a = a' by omega]
  | succ k ih =>
    by_cases hb : a < b
    · rw [irng_cons hb, List.filter_cons_of_neg (by rw [hn a (Int.le_refl _) (by omega)]; exact Bool.false_ne_true)]
      exact ih (by omega) (fun x h1 h2 => hn x (by omega) h2) (by omega)
    · rw [irng_nil (by omega), irng_nil (by omega)]
end Pl
namespace Pl
open PySem PySem.Spec PyProof.Rows L2
/-! ### slices by written places, == of equal data -/
theorem cutD_from {α : Type} (xs : List α) (k : Nat) : cutD xs (some (k : Int)) none = xs.drop k := by
  unfold cutD
  rw [HT.sIx_nat, HT.sIx_none]
  rcases Nat.le_total k xs.length with h | h
  · rw [Nat.min_eq_left h, ← List.length_drop, List.take_length]
  · rw [Nat.min_eq_right h, Nat.sub_self, List.take_zero, List.drop_of_length_le h]
theorem cutD_to {α : Type} (xs : List α) (k : Nat) : cutD xs none (some (k : Int)) = xs.take k := by
  unfold cutD
  rw [HT.sIx_nat, HT.sIx_none, List.drop_zero, Nat.sub_zero]
  rcases Nat.le_total k xs.length with h | h
  · rw [Nat.min_eq_left h]
  · rw [Nat.min_eq_right h, List.take_length, List.take_of_length_le h]
theorem cutD_mid {α : Type} (xs : List α) (j k : Nat) : cutD xs (some (j : Int)) (some (k : Int)) = (xs.drop j).take (k - j) := by
  unfold cutD
  rw [HT.sIx_nat, HT.sIx_nat]
  rcases Nat.le_total j xs.length with h | h
  · rw [Nat.min_eq_left h]
    rcases Nat.le_total k xs.length with h2 | h2
    · rw [Nat.min_eq_left h2]
    · rw [Nat.min_eq_right h2, ← List.length_drop, List.take_length, List.take_of_length_le (by rw [List.length_drop]; omega)]
  · rw [Nat.min_eq_right h, List.drop_of_length_le h, List.drop_of_length_le (Nat.le_refl _)]; simp
@[simp] theorem cutD_1n {α : Type} (xs : List α) : cutD xs (some 1) none = xs.drop 1 := cutD_from xs 1
@[simp] theorem cutD_2n {α : Type} (xs : List α) : cutD xs (some 2) none = xs.drop 2 := cutD_from xs 2
@[simp] theorem cutD_3n {α : Type} (xs : List α) : cutD xs (some 3) none = xs.drop 3 := cutD_from xs 3
@[simp] theorem cutD_4n {α : Type} (xs : List α) : cutD xs (some 4) none = xs.drop 4 := cutD_from xs 4
@[simp] theorem cutD_6n {α : Type} (xs : List α) : cutD xs (some 6) none = xs.drop 6 := cutD_from xs 6
@[simp] theorem cutD_n2 {α : Type} (xs : List α) : cutD xs none (some 2) = xs.take 2 := cutD_to xs 2
@[simp] theorem cutD_5n {α : Type} (xs : List α) : cutD xs (some 5) none = xs.drop 5 := cutD_from xs 5
@[simp] theorem cutD_8n {α : Type} (xs : List α) : cutD xs (some 8) none = xs.drop 8 := cutD_from xs 8
@[simp] theorem cutD_nn {α : Type} (xs : List α) : cutD xs none none = xs := by unfold cutD; rw [HT.sIx_none, HT.sIx_none]; simp
theorem eqG_same (neg : Bool) {a b : SV} {x : D} (ha : datS a = .ok x) (hb : datS b = .ok x) (h : shpD x = true) : eqG neg a b = .ok (.d (.bool (!neg))) := by
  unfold eqG
  rw [ha, hb]
  simp only [ok_bind, h, and_self, if_true]
  rw [PySem.SeqAt.eqv_refl_plain x (shpD_of h).1]
  cases neg <;> rfl
theorem eqS_same (neg : Bool) {x : D} (h : shpD x = true) : eqS neg (.d x) (.d x) = .ok (.d (.bool (!neg))) := by
  cases x with
  | none => cases neg <;> rfl
  | bool b => simp
  | int i => simp
  | str s => simp
  | list xs => exact eqG_same neg rfl rfl h
  | tuple xs => exact eqG_same neg rfl rfl h
  | dict xs => exact eqG_same neg rfl rfl h
theorem eqS_sameL (neg : Bool) {xs : List D} (h : shpD (.list xs) = true) : eqS neg (.ol xs) (.ol xs) = .ok (.d (.bool (!neg))) := eqG_same neg rfl rfl h
theorem ints_get {ns : List Int} {i : Nat} {x : D} (h : (ns.map PyData.int)[i]? = some x) : ∃ n, ns[i]? = some n ∧ x = .int n := by
  rw [List.getElem?_map] at h
  cases e : ns[i]? with
  | none => rw [e] at h; cases h
  | some n => rw [e] at h; cases h; exact ⟨n, rfl, rfl⟩
theorem two_of {ds : List Int} (h : ds.length = 2) : ∃ a b, ds = [a, b] := by
  match ds, h with
  | [a, b], _ => exact ⟨a, b, rfl⟩
end Pl
namespace Pl
open PySem PySem.Spec PyProof.Rows L2
/-! ### data of bounded depth and size -/
def wfD : Nat → D → Bool
  | 0, _ => false
  | _ + 1, .none => true
  | _ + 1, .bool _ => true
  | _ + 1, .int _ => true
  | _ + 1, .str _ => true
  | n + 1, .list xs => decide (xs.length < 1000000) && xs.all (wfD n)
  | n + 1, .tuple xs => decide (xs.length < 1000000) && xs.all (wfD n)
  | _ + 1, .dict _ => false
theorem wfD_up : ∀ {n m : Nat} {x : D}, n ≤ m → wfD n x = true → wfD m x = true
  | 0, _, _, _, h => by cases h
  | n + 1, 0, _, hn, _ => by omega
  | n + 1, m + 1, x, hn, h => by
    cases x with
    | list xs =>
      simp only [wfD, Bool.and_eq_true, List.all_eq_true] at h ⊢
      exact ⟨h.1, fun y hy => wfD_up (by omega) (h.2 y hy)⟩
    | tuple xs =>
      simp only [wfD, Bool.and_eq_true, List.all_eq_true] at h ⊢
      exact ⟨h.1, fun y hy => wfD_up (by omega) (h.2 y hy)⟩
    | dict xs => cases h
    | _ => rfl
/-! ### sorted ints -/
theorem alike_ints : ∀ ns : List Int, allAlike (ns.map PyData.int) = true := by
  intro ns
  unfold allAlike
  simp [List.all_eq_true, PySem.W.alike]
theorem sortable_ints (ns : List Int) : sortable (ns.map PyData.int) = true := by
  unfold sortable
  have : (ns.map PyData.int).all noTup = true := by simp [List.all_eq_true, noTup]
  rw [this, Bool.or_true]
def isort (ns : List Int) : List Int := ns.mergeSort fun a b => decide (a ≤ b)
theorem isort_perm (ns : List Int) : (isort ns).Perm ns := List.mergeSort_perm ns _
theorem isort_sorted (ns : List Int) : (isort ns).Pairwise (· ≤ ·) := by
  have h := List.pairwise_mergeSort (le := fun a b : Int => decide (a ≤ b)) (fun a b c h1 h2 => by simp at *; omega) (fun a b => by simp; omega) ns
  exact h.imp fun h => by simpa using h
theorem sortD_ints (ns : List Int) : sortD (ns.map PyData.int) = (isort ns).map PyData.int := by
  unfold sortD isort
  refine (List.map_mergeSort (f := PyData.int) (s := PySem.W.dataLe false id) (fun a _ b _ => ?_)).symm
  rw [PySem.W.dataLe_eq]
  show decide (a ≤ b) = !PySem.W.dataLt (.int b) (.int a)
  rw [PySem.W.dataLt_int, Bool.eq_iff_iff]
  simp
theorem sortedS_ints (ns : List Int) (h : ns.length < 1000000) : sortedS [.ol (ns.map PyData.int)] = .ok (.ol ((isort ns).map PyData.int)) := by
  have hz := line16
  unfold sortedS
  have hd : ((ns.map PyData.int).all fun d => decide (d.depth ≤ 60)) = true := by simp [List.all_eq_true, PyData.depth]
  simp only [datL]
  rw [if_pos ⟨alike_ints ns, sortable_ints ns, hd, by rw [List.length_map]; omega⟩, sortD_ints]
/-- the first one that passes -/
theorem find_asc (c : Int → Bool) (hi : Int) : ∀ (k : Nat) (lo : Int) (up : List Int), (hi - lo).toNat = k → up.Pairwise (· < ·) → (∀ x ∈ up, lo ≤ x ∧ x < hi) → (irng lo hi).find? (fun x => decide (x ∈ up) && c x) = up.find? c
  | 0, lo, up, hk, hs, hb => by
    rw [irng_nil (by omega)]
    cases up with
    | nil => rfl
    | cons x r => have := hb x List.mem_cons_self; omega
  | k + 1, lo, up, hk, hs, hb => by
    rw [irng_cons (by omega)]
    by_cases hm : lo ∈ up
    · cases up with
      | nil => cases hm
      | cons x r =>
        have hx : x = lo := by
          rcases List.mem_cons.mp hm with e | e
          · exact e.symm
          · have h1 := (List.pairwise_cons.mp hs).1 lo e
            have h2 := (hb x List.mem_cons_self).1
            omega
        subst hx
        rw [List.find?_cons, List.find?_cons]
        simp only [List.mem_cons_self, decide_true, Bool.true_and]
        cases hc : c x with
        | true => rfl
        | false =>
          have ih := find_asc c hi k (x + 1) r (by omega) (List.pairwise_cons.mp hs).2 (fun y hy => ⟨by have := (List.pairwise_cons.mp hs).1 y hy; omega, (hb y (List.mem_cons_of_mem _ hy)).2⟩)
          rw [← ih]
          have e : ∀ y ∈ irng (x + 1) hi, (decide (y ∈ x :: r) && c y) = (decide (y ∈ r) && c y) := fun y hy => by
            have := (irng_mem hy).1
            have hne : y ≠ x := by omega
            simp [hne]
          clear ih hs hb hm hk hc
          show List.find? _ (irng (x + 1) hi) = _
          revert e
          generalize irng (x + 1) hi = L
          intro e
          induction L with
          | nil => rfl
          | cons a L ih =>
            rw [List.find?_cons, List.find?_cons, e a List.mem_cons_self]
            rw [ih fun y hy => e y (List.mem_cons_of_mem _ hy)]
    · rw [List.find?_cons]
      simp only [hm, decide_false, Bool.false_and]
      exact find_asc c hi k (lo + 1) up (by omega) hs fun y hy => ⟨by
        have h1 := (hb y hy).1
        have h2 : y ≠ lo := fun e => hm (e ▸ hy)
        omega, (hb y hy).2⟩
theorem asc_of {ns : List Int} (h : ns.Pairwise (· ≤ ·)) (hn : ns.Nodup) : ns.Pairwise (· < ·) := by
  induction ns with
  | nil => exact .nil
  | cons x r ih =>
    obtain ⟨h1, h2⟩ := List.pairwise_cons.mp h
    obtain ⟨n1, n2⟩ := List.nodup_cons.mp hn
    exact List.pairwise_cons.mpr ⟨fun y hy => by have := h1 y hy; have : x ≠ y := fun e => n1 (e ▸ hy); omega, ih h2 n2⟩
theorem nodup_asc {ns : List Int} (h : ns.Pairwise (· < ·)) : ns.Nodup := h.imp fun h e => by omega
theorem irng_asc (a b : Int) : (irng a b).Pairwise (· < ·) := by
  generalize hk : (b - a).toNat = k
  induction k generalizing a with
  | zero => rw [irng_nil (by omega)]; exact .nil
  | succ k ih =>
    rw [irng_cons (by omega)]
    exact List.pairwise_cons.mpr ⟨fun x hx => by have := (irng_mem hx).1; omega, ih (a + 1) (by omega)⟩
/-- x in a list of ints -/
theorem inS_ints (neg : Bool) (x : Int) (ns : List Int) : inS neg (.d (.int x)) (.ol (ns.map PyData.int)) = .ok (.d (.bool (if neg then !decide (x ∈ ns) else decide (x ∈ ns)))) := by
  have e : ((ns.map PyData.int).any fun z => PyData.eqv z (.int x)) = decide (x ∈ ns) := by
    induction ns with
    | nil => rfl
    | cons n r ih =>
      rw [List.map_cons, List.any_cons, ih, eqv_int]
      by_cases h : n = x
      · subst h; simp
      · have h2 : x ≠ n := fun e => h e.symm
        simp [h, h2]
  unfold inS
  simp only
  rw [if_pos ⟨rfl, shaped_ints ns⟩, e]
theorem inS_intsD (neg : Bool) (x : Int) (ns : List Int) : inS neg (.d (.int x)) (.d (.list (ns.map PyData.int))) = .ok (.d (.bool (if neg then !decide (x ∈ ns) else decide (x ∈ ns)))) := inS_ints neg x ns
theorem eqS_intsOD (neg : Bool) (ns ms : List Int) : eqS neg (.ol (ns.map PyData.int)) (.d (.list (ms.map PyData.int))) = .ok (.d (.bool (if neg then !decide (ns = ms) else decide (ns = ms)))) := eqS_ints neg ns ms
theorem eqS_intsDO (neg : Bool) (ns ms : List Int) : eqS neg (.d (.list (ns.map PyData.int))) (.ol (ms.map PyData.int)) = .ok (.d (.bool (if neg then !decide (ns = ms) else decide (ns = ms)))) := eqS_ints neg ns ms
theorem eqS_intsDD (neg : Bool) (ns ms : List Int) : eqS neg (.d (.list (ns.map PyData.int))) (.d (.list (ms.map PyData.int))) = .ok (.d (.bool (if neg then !decide (ns = ms) else decide (ns = ms)))) := eqS_ints neg ns ms
/-! ### bodies, piece by piece -/
theorem seqS_assoc (f g h : En → R Fl) : seqS (seqS f g) h = seqS f (seqS g h) := by
  funext ρ
  simp only [seqS_ap]
  cases f ρ with
  | ok z => cases z <;> rfl
  | ex => rfl
  | bad => rfl
theorem seq_nx {f g : En → R Fl} {ρ ρ1 : En} {z : R Fl} (h : f ρ = .ok (.nx ρ1)) (h2 : g ρ1 = z) : seqS f g ρ = z := by
  rw [seqS_ap, h]; exact h2
theorem seq_rt {f g : En → R Fl} {ρ : En} {r : SV} (h : f ρ = .ok (.rt r)) : seqS f g ρ = .ok (.rt r) := by
  rw [seqS_ap, h]; rfl
theorem asg_nx {i : Nat} {fa : En → R SV} {ρ ρ1 : En} {r : SV} (h : fa ρ = .ok r) (h2 : ρ.set i (some r) = ρ1) (hp : r.npin = true := by rfl) : asgS i fa ρ = .ok (.nx ρ1) := by
  rw [asgS_ap, h, ← h2, ok_bind, if_pos hp]
theorem kill_nx {is : List Nat} {f : En → R Fl} {ρ ρ1 ρ2 : En} (h : f ρ = .ok (.nx ρ1)) (h2 : killE is ρ1 = ρ2) : kill is f ρ = .ok (.nx ρ2) := by
  rw [kill_ap, h, ← h2]; rfl
end Pl
namespace Pl
open PySem PySem.Spec PyProof.Rows L2
/-! ### strings, by their lengths -/
theorem len_app (a b : Str) : (a ++ b).length = a.length + b.length := by
  show (a.cps ++ b.cps).size = _
  rw [Array.size_append]; rfl
theorem cutS_len (z : Str) (lo hi : Option Int) : (cutS z lo hi).length ≤ z.length := by
  show ((z.cps.toList.drop _).take _).toArray.size ≤ z.cps.size
  rw [List.size_toArray, List.length_take, List.length_drop, Array.length_toList]
  omega
theorem slS_s (z : Str) (lo hi : Option Int) (h : z.length ≤ 1000) : slS (.d (.str z)) lo hi = .ok (.d (.str (cutS z lo hi))) := by
  have hz := line16
  show (if z.length ≤ sizeLine then _ else _) = _
  rw [if_pos (by omega)]
theorem ixS_s (z : Str) (i : Int) (h : z.length ≤ 1000) (h0 : 0 ≤ i) (h1 : i < z.length) : ∃ c : Str, ixS (.d (.str z)) (.d (.int i)) = .ok (.d (.str c)) ∧ c.length = 1 := by
  have hz := line16
  have e := atI_of (xs := z.cps.toList) h0 (by show i < (z.cps.toList.length : Nat); rw [show z.cps.toList.length = z.length from rfl]; exact h1)
  refine ⟨⟨#[z.cps.toList[i.toNat]'(by have : z.cps.toList.length = z.length := rfl; omega)]⟩, ?_, rfl⟩
  show (if z.length ≤ sizeLine then _ else _) = _
  rw [if_pos (by omega), e]
theorem addS_s (a b : Str) (h : a.length ≤ 1000) (h2 : b.length ≤ 1000) : addS (.d (.str a)) (.d (.str b)) = .ok (.d (.str (a ++ b))) := by
  have hz := line16
  show (if a.length + b.length ≤ sizeLine then _ else _) = _
  rw [if_pos (by omega)]
/-! ### comprehensions and loops that build -/
theorem lcF_ex {α : Type} (g : α → D) (Q : α → Prop) {k : D → En → R En} {e : En → R SV} {ρ0 : En} : ∀ (xs : List D), (∀ x, x ∈ xs → ∃ ρ1 r y, k x ρ0 = .ok ρ1 ∧ e ρ1 = .ok r ∧ datS r = .ok (g y) ∧ Q y) → ∃ ys : List α, lcF k yesT e ρ0 xs = .ok (ys.map g) ∧ ys.length = xs.length ∧ ∀ y ∈ ys, Q y
  | [], _ => ⟨[], rfl, rfl, fun _ h => nomatch h⟩
  | x :: xs, h => by
    obtain ⟨ρ1, r, y, h1, h2, h3, h4⟩ := h x List.mem_cons_self
    obtain ⟨ys, e1, e2, e3⟩ := lcF_ex g Q (k := k) (e := e) (ρ0 := ρ0) xs fun x hx => h x (List.mem_cons_of_mem _ hx)
    refine ⟨y :: ys, ?_, by simp [e2], fun z hz => ?_⟩
    · unfold lcF
      simp [h1, h2, h3, e1]
    · rcases List.mem_cons.mp hz with rfl | hz
      · exact h4
      · exact e3 z hz
theorem rng_mem {a b : Int} {x : D} (h : x ∈ rng a b) : ∃ i, x = .int i ∧ a ≤ i ∧ i < b := by
  rw [rng_irng] at h
  obtain ⟨i, hi, rfl⟩ := List.mem_map.mp h
  exact ⟨i, rfl, irng_mem hi⟩
/-- an index of written ints -/
theorem atI_ints (ns : List Int) (i : Int) (h0 : 0 ≤ i) (h1 : i < ns.length) : ∃ n, n ∈ ns ∧ atI (ns.map PyData.int) i = some (.int n) := by
  rw [atI_of h0 (by simpa using h1)]
  exact ⟨ns[i.toNat]'(by omega), List.getElem_mem _, by simp⟩
theorem atI_map {α : Type} (g : α → D) (ns : List α) (i : Int) (h0 : 0 ≤ i) (h1 : i < ns.length) : ∃ n, n ∈ ns ∧ atI (ns.map g) i = some (g n) := by
  rw [atI_of h0 (by simpa using h1)]
  exact ⟨ns[i.toNat]'(by omega), List.getElem_mem _, by simp⟩
theorem atI_map' {α : Type} (g : α → D) (ns : List α) (i : Int) (n : α) (h0 : 0 ≤ i) (h : ns[i.toNat]? = some n) : atI (ns.map g) i = some (g n) := by
  have h1 : i.toNat < ns.length := by
    rcases Nat.lt_or_ge i.toNat ns.length with q | q
    · exact q
    · rw [List.getElem?_eq_none q] at h; cases h
  rw [atI_of h0 (by simp; omega)]
  rw [List.getElem?_eq_getElem h1] at h
  injection h with h
  simp [h]
theorem imodN (a b : Int) (h : 0 < b) : 0 ≤ a % b ∧ a % b < b := ⟨Int.emod_nonneg _ (by omega), Int.emod_lt_of_pos _ h⟩
theorem bls_map (bs : List Bool) : bls (bs.map PyData.bool) = some bs := by
  induction bs with
  | nil => rfl
  | cons b r ih => show (bls (r.map PyData.bool)).map _ = _; rw [ih]; rfl
theorem anyS_ol (bs : List Bool) : anyS [.ol (bs.map PyData.bool)] = .ok (.d (.bool (bs.any id))) := by
  show (match bls (bs.map PyData.bool) with | some bs => R.ok (SV.d (.bool (bs.any id))) | none => .bad) = _
  rw [bls_map]
theorem allS_ol (bs : List Bool) : allS [.ol (bs.map PyData.bool)] = .ok (.d (.bool (bs.all id))) := by
  show (match bls (bs.map PyData.bool) with | some bs => R.ok (SV.d (.bool (bs.all id))) | none => .bad) = _
  rw [bls_map]
theorem runB_rt {n m : Nat} {b : En → R Fl} {ds : List D} {r : SV} (h : b (startE m ds) = .ok (.rt r)) (hn : ds.length = n) : runB n m b ds = .ok r := by
  unfold runB
  rw [if_pos hn, h]; rfl
theorem runB_nx {n m : Nat} {b : En → R Fl} {ds : List D} {ρ : En} (h : b (startE m ds) = .ok (.nx ρ)) (hn : ds.length = n) : runB n m b ds = .ok (.d .none) := by
  unfold runB
  rw [if_pos hn, h]; rfl
theorem forS_tup {fa : En → R SV} {k : D → En → R En} {b : En → R Fl} {ρ : En} {xs : List D} {z : R Fl} (h : fa ρ = .ok (.d (.tuple xs))) (h2 : forF k b xs ρ = z) : forS (seqD fa) k b ρ = z := by
  rw [forS_ap, seqD_ap, h]; exact h2
theorem forS_lst {fa : En → R SV} {k : D → En → R En} {b : En → R Fl} {ρ : En} {xs : List D} {z : R Fl} (h : fa ρ = .ok (.d (.list xs))) (h2 : forF k b xs ρ = z) : forS (seqD fa) k b ρ = z := by
  rw [forS_ap, seqD_ap, h]; exact h2
theorem forS_ol {fa : En → R SV} {k : D → En → R En} {b : En → R Fl} {ρ : En} {xs : List D} {z : R Fl} (h : fa ρ = .ok (.ol xs)) (h2 : forF k b xs ρ = z) : forS (seqD fa) k b ρ = z := by
  rw [forS_ap, seqD_ap, h]; exact h2
theorem forS_rng1 {fa : En → R SV} {k : D → En → R En} {b : En → R Fl} {ρ : En} {j : Int} {z : R Fl} (h : fa ρ = .ok (.d (.int j))) (hj : okR j = true) (h2 : forF k b (rng 0 j) ρ = z) : forS (rngD1 (conB fa nilB)) k b ρ = z := by
  rw [forS_ap, rngD1_ap, conB_ap, h]
  simp only [nilB_ap, ok_bind, hj, if_true]; exact h2
theorem forS_rng2 {fa fb : En → R SV} {k : D → En → R En} {b : En → R Fl} {ρ : En} {i j : Int} {z : R Fl} (h : fa ρ = .ok (.d (.int i))) (h' : fb ρ = .ok (.d (.int j))) (hi : okR i = true) (hj : okR j = true) (h2 : forF k b (rng i j) ρ = z) : forS (rngD2 (conB fa (conB fb nilB))) k b ρ = z := by
  rw [forS_ap, rngD2_ap, conB_ap, h, ok_bind, conB_ap, h']
  simp only [nilB_ap, ok_bind, hi, hj, and_self, if_true]; exact h2
theorem eqS_lists (neg : Bool) {a b : SV} {xs ys : List D} (ha : datS a = .ok (.list xs)) (hb : datS b = .ok (.list ys)) : eqS neg a b = eqG neg a b := by
  cases a with
  | d x => cases ha; cases b <;> rfl
  | ol x => cases b <;> rfl
  | _ => cases ha
/-- a computed list is the same as itself -/
theorem eqS_selfL (neg : Bool) {a b : SV} {xs : List D} (ha : datS a = .ok (.list xs)) (hb : datS b = .ok (.list xs)) (h : shpD (.list xs) = true) : eqS neg a b = .ok (.d (.bool (!neg))) := by
  rw [eqS_lists neg ha hb, eqG_same neg ha hb h]
end Pl
namespace Pl
open PySem PySem.Spec PyProof.Rows L2
/-! ### labels and matchers -/
abbrev Lab := List (Str × Str)
def encP (p : Str × Str) : D := .tuple [.str p.1, .str p.2]
def encB (l : Lab) : D := .tuple (l.map encP)
structure Mat where
  nm : Str
  vs : List Str
  inn : Bool
structure Mat.Ok (m : Mat) : Prop where
  vs : m.vs.length ≤ 2
def encMt (m : Mat) : D := .tuple [.str m.nm, .tuple (m.vs.map PyData.str), .bool m.inn]
def valL (l : Lab) (n : Str) : Str := match l.find? fun p => decide (p.1 = n) with
  | some p => p.2
  | none => ""
def matM (m : Mat) (l : Lab) : Bool := decide (decide (valL l m.nm ∈ m.vs) = m.inn)
theorem inS_strs (neg : Bool) (x : Str) (ns : List Str) : inS neg (.d (.str x)) (.d (.tuple (ns.map PyData.str))) = .ok (.d (.bool (if neg then !decide (x ∈ ns) else decide (x ∈ ns)))) := by
  have e : ((ns.map PyData.str).any fun z => PyData.eqv z (.str x)) = decide (x ∈ ns) := by
    induction ns with
    | nil => rfl
    | cons n r ih =>
      rw [List.map_cons, List.any_cons, ih]
      have : PyData.eqv (.str n) (.str x) = decide (n = x) := by simp [PyData.eqv, Bool.beq_eq_decide_eq]
      rw [this]
      by_cases h : n = x
      · subst h; simp
      · have h2 : x ≠ n := fun e => h e.symm
        simp [h, h2]
  have f : (ns.map PyData.str).all flat = true := by
    rw [List.all_eq_true]
    intro d hd
    obtain ⟨s, _, rfl⟩ := List.mem_map.mp hd
    rfl
  unfold inS
  simp only
  rw [if_pos ⟨rfl, f⟩, e]
abbrev eV (l : Lab) (n : Str) (x : Option SV) : En := [some (.d (encB l)), some (.d (.str n)), x]
theorem val_loop {b : En → R Fl} (l : Lab) (n : Str) (hb : b = (kill [2] (ifS (asT (bin (eqS false) (bin ixS (peek 2) (kon (.int 0))) (peek 1))) (retS (bin ixS (peek 2) (kon (.int 1)))) skip))) : ∀ u : Lab, forF (setD 2) b (u.map encP) (eV l n none) = (match u.find? fun p => decide (p.1 = n) with | some p => .ok (.rt (.d (.str p.2))) | none => .ok (.nx (eV l n none)))
  | [] => rfl
  | p :: u => by
    have ih := val_loop l n hb u
    rw [List.map_cons, forF, List.find?_cons]
    have i0 : ixS (.d (encP p)) (.d (.int 0)) = .ok (.d (.str p.1)) := rfl
    have i1 : ixS (.d (encP p)) (.d (.int 1)) = .ok (.d (.str p.2)) := rfl
    by_cases c : p.1 = n
    · have e2 : b [some (.d (encB l)), some (.d (.str n)), some (.d (encP p))] = .ok (.rt (.d (.str p.2))) := by
        subst hb
        simp [i0, i1, c]
      simp only [setD_ap, List.set_cons_succ, List.set_cons_zero, e2, ok_bind, decide_eq_true c]
    · have e2 : b [some (.d (encB l)), some (.d (.str n)), some (.d (encP p))] = .ok (.nx (eV l n none)) := by
        subst hb
        simp [i0, i1, c]
      simp only [setD_ap, List.set_cons_succ, List.set_cons_zero, e2, ok_bind, decide_eq_false c]
      exact ih
theorem val_body {b : En → R Fl} {c : En → R Fl} (l : Lab) (n : Str) (hb : b = (kill [2] (ifS (asT (bin (eqS false) (bin ixS (peek 2) (kon (.int 0))) (peek 1))) (retS (bin ixS (peek 2) (kon (.int 1)))) skip))) (hc : c = (seqS (forS (seqD (getV 0)) (setD 2) b) (retS (kon (.str ""))))) : runB 2 3 c [encB l, .str n] = .ok (.d (.str (valL l n))) := by
  have h := val_loop l n hb l
  have hb : ∀ ρ, ρ = eV l n none → c ρ = .ok (.rt (.d (.str (valL l n)))) := by
    rintro _ rfl
    rw [hc]
    have f := forS_tup (fa := getV 0) (k := setD 2) (b := b) (ρ := eV l n none) rfl h
    unfold valL
    cases hq : l.find? fun p => decide (p.1 = n) with
    | some p => rw [hq] at f; exact seq_rt f
    | none => rw [hq] at f; exact seq_nx f rfl
  exact runB_rt (hb _ rfl) rfl
theorem plain_strs : ∀ ns : List Str, PyData.plainAll (ns.map PyData.str) = true
  | [] => rfl
  | n :: r => by
    show (PyData.plain (.str n) && PyData.plainAll (r.map PyData.str)) = true
    rw [plain_strs r]; rfl
theorem depth_strs : ∀ ns : List Str, PyData.depthAll (ns.map PyData.str) = 0
  | [] => rfl
  | n :: r => by
    show max (PyData.depth (.str n)) (PyData.depthAll (r.map PyData.str)) = 0
    rw [depth_strs r]; rfl
theorem shaped_strs (ns : List Str) : shpD (.list (ns.map PyData.str)) = true := by
  refine shp_of (plain_strs ns) ?_
  show PyData.depthAll (ns.map PyData.str) + 1 ≤ 60
  rw [depth_strs]; omega
theorem inS_strsO (neg : Bool) (x : Str) (ns : List Str) : inS neg (.d (.str x)) (.ol (ns.map PyData.str)) = .ok (.d (.bool (if neg then !decide (x ∈ ns) else decide (x ∈ ns)))) := by
  have e : ((ns.map PyData.str).any fun z => PyData.eqv z (.str x)) = decide (x ∈ ns) := by
    induction ns with
    | nil => rfl
    | cons n r ih =>
      rw [List.map_cons, List.any_cons, ih]
      have : PyData.eqv (.str n) (.str x) = decide (n = x) := by simp [PyData.eqv, Bool.beq_eq_decide_eq]
      rw [this]
      by_cases h : n = x
      · subst h; simp
      · have h2 : x ≠ n := fun e => h e.symm
        simp [h, h2]
  unfold inS
  simp only
  rw [if_pos ⟨rfl, shaped_strs ns⟩, e]
theorem plain_labs : ∀ ns : Lab, PyData.plainAll (ns.map encP) = true
  | [] => rfl
  | n :: r => by
    show (PyData.plain (encP n) && PyData.plainAll (r.map encP)) = true
    rw [plain_labs r]; rfl
theorem depth_labs : ∀ ns : Lab, PyData.depthAll (ns.map encP) ≤ 1
  | [] => Nat.zero_le _
  | n :: r => by
    show max (PyData.depth (encP n)) (PyData.depthAll (r.map encP)) ≤ 1
    have := depth_labs r
    have h : PyData.depth (encP n) = 1 := rfl
    rw [h]; omega
theorem shaped_lab (l : Lab) : shpD (encB l) = true := by
  refine shp_of (plain_labs l) ?_
  show PyData.depthAll (l.map encP) + 1 ≤ 60
  have := depth_labs l
  omega
theorem eqS_lab (neg : Bool) (l m : Lab) : eqS neg (.d (encB l)) (.d (encB m)) = .ok (.d (.bool (if neg then !PyData.eqv (encB l) (encB m) else PyData.eqv (encB l) (encB m)))) := by
  show eqG neg _ _ = _
  unfold eqG
  simp [shaped_lab]
theorem sorted_pairs0 (ps : Lab) (h : ps.length < 1000000) : ∃ qs : Lab, Pl.sortedS [.ol (ps.map encP)] = .ok (.ol (qs.map encP)) ∧ qs.Perm ps ∧ qs = ps.mergeSort fun a b => PySem.W.dataLe false id (encP a) (encP b) := by
  have hz := line16
  refine ⟨ps.mergeSort fun a b => PySem.W.dataLe false id (encP a) (encP b), ?_, List.mergeSort_perm ps _, rfl⟩
  unfold Pl.sortedS
  have h1 : allAlike (ps.map encP) = true := by
    unfold allAlike
    rw [List.all_eq_true]
    intro a ha
    rw [List.all_eq_true]
    intro b hb
    obtain ⟨p, _, rfl⟩ := List.mem_map.mp ha
    obtain ⟨q, _, rfl⟩ := List.mem_map.mp hb
    rfl
  have h2 : sortable (ps.map encP) = true := by
    unfold sortable
    rw [Bool.or_eq_true]
    left
    rw [List.all_eq_true]
    intro a ha
    obtain ⟨p, _, rfl⟩ := List.mem_map.mp ha
    rfl
  have h3 : ((ps.map encP).all fun d => decide (d.depth ≤ 60)) = true := by
    rw [List.all_eq_true]
    intro a ha
    obtain ⟨p, _, rfl⟩ := List.mem_map.mp ha
    rfl
  simp only [datL]
  rw [if_pos ⟨h1, h2, h3, by rw [List.length_map]; omega⟩]
  unfold sortD
  congr 2
  exact (List.map_mergeSort (f := encP) (s := PySem.W.dataLe false id) (fun a _ b _ => rfl)).symm
theorem sorted_pairs (ps : Lab) (h : ps.length < 1000000) : ∃ qs : Lab, Pl.sortedS [.ol (ps.map encP)] = .ok (.ol (qs.map encP)) ∧ qs.Perm ps := let ⟨qs, a, b, _⟩ := sorted_pairs0 ps h; ⟨qs, a, b⟩
/-! ### labels in order -/
theorem str_eq {a b : Str} (h : a.cps.toList = b.cps.toList) : a = b := by
  cases a; cases b; congr 1; exact Array.toList_inj.mp h
theorem str_ne {a b : Str} (h : a ≠ b) : a.cps.toList ≠ b.cps.toList := fun e => h (str_eq e)
def ltS' (a b : Str) : Prop := a.cps.toList < b.cps.toList
theorem ltS'_irr (a : Str) : ¬ ltS' a a := List.lt_irrefl _
theorem ltS'_asy {a b : Str} (h : ltS' a b) : ¬ ltS' b a := List.lt_asymm h
theorem ltS'_ne {a b : Str} (h : ltS' a b) : a ≠ b := fun e => by subst e; exact ltS'_irr _ h
theorem ltS'_tri {a b : Str} (h : ¬ ltS' a b) (h2 : a ≠ b) : ltS' b a := Std.lt_of_le_of_ne (List.not_lt.mp h) fun e => h2 (str_eq e.symm)
/-- labels: strictly ascending by names -/
def Asc (l : Lab) : Prop := l.Pairwise fun p q => ltS' p.1 q.1
theorem le_pair {p q : Str × Str} (h : p.1 ≠ q.1) (hl : PySem.W.dataLe false id (encP p) (encP q) = true) : ltS' p.1 q.1 := by
  have e : PySem.W.dataLe false id (encP p) (encP q) = !PySem.W.dataLt (encP q) (encP p) := rfl
  rw [e] at hl
  unfold encP at hl
  rw [PySem.W.dataLt_pair (by rfl) (by rfl)] at hl
  have e2 : PyData.eqv (.str q.1) (.str p.1) = false := by
    simp [PyData.eqv]; exact fun z => h z.symm
  rw [e2] at hl
  have hn : ¬ (q.1.cps.toList < p.1.cps.toList) := fun z => by
    rw [if_neg (by simp), PySem.W.dataLt_str, decide_eq_true z] at hl; cases hl
  exact Std.lt_of_le_of_ne (List.not_lt.mp hn) (str_ne h)
theorem dle_total (f : D → D) : ∀ a b, (PySem.W.dataLe false f a b || PySem.W.dataLe false f b a) = true := fun a b => by
  rcases (PySem.W.sortLe_total (PyProof.Rows.listOrd PyProof.Rows.itemOrd) false fun d => PySem.W.keyToks (f d)).total a b with h | h
  · rw [Bool.or_eq_true]; exact .inl h
  · rw [Bool.or_eq_true]; exact .inr h
theorem dle_trans (f : D → D) : ∀ a b c, PySem.W.dataLe false f a b = true → PySem.W.dataLe false f b c = true → PySem.W.dataLe false f a c = true :=
  (PySem.W.sortLe_total (PyProof.Rows.listOrd PyProof.Rows.itemOrd) false fun d => PySem.W.keyToks (f d)).trans
theorem asc_sorted (ps : Lab) (nd : (ps.map Prod.fst).Nodup) : Asc (ps.mergeSort fun a b => PySem.W.dataLe false id (encP a) (encP b)) := by
  have h1 := List.pairwise_mergeSort (le := fun a b => PySem.W.dataLe false id (encP a) (encP b)) (fun a b c => dle_trans id _ _ _) (fun a b => dle_total id _ _) ps
  have hp := List.mergeSort_perm ps fun a b => PySem.W.dataLe false id (encP a) (encP b)
  have h2 : ((ps.mergeSort fun a b => PySem.W.dataLe false id (encP a) (encP b)).map Prod.fst).Nodup := (hp.map Prod.fst).nodup_iff.mpr nd
  have h3 : (ps.mergeSort fun a b => PySem.W.dataLe false id (encP a) (encP b)).Pairwise fun p q => p.1 ≠ q.1 := List.pairwise_map.mp h2
  exact (List.Pairwise.and h1 h3).imp fun ⟨a, b⟩ => le_pair b a
theorem sorted_asc (ps : Lab) (h : ps.length < 1000000) (nd : (ps.map Prod.fst).Nodup) : ∃ qs : Lab, Pl.sortedS [.ol (ps.map encP)] = .ok (.ol (qs.map encP)) ∧ qs.Perm ps ∧ Asc qs := by
  obtain ⟨qs, h1, h2, h3⟩ := sorted_pairs0 ps h
  exact ⟨qs, h1, h2, by rw [h3]; exact asc_sorted ps nd⟩
theorem Asc.mem_val {l : Lab} (h : Asc l) {p : Str × Str} (hp : p ∈ l) : valL l p.1 = p.2 := by
  induction l with
  | nil => cases hp
  | cons q r ih =>
    unfold valL
    rw [List.find?_cons]
    rcases List.mem_cons.mp hp with rfl | hp
    · simp
    · have := List.rel_of_pairwise_cons h hp
      have hne : ¬ q.1 = p.1 := ltS'_ne this
      simp only [hne, decide_false]
      exact ih (List.Pairwise.of_cons h) hp
theorem val_mem {l : Lab} {n v : Str} (h : valL l n = v) (hv : v ≠ "") : (n, v) ∈ l := by
  unfold valL at h
  cases e : l.find? (fun p => decide (p.1 = n)) with
  | none => rw [e] at h; exact absurd h.symm hv
  | some p =>
    rw [e] at h
    have h1 := List.mem_of_find?_eq_some e
    have h2 := List.find?_some e
    simp at h2 h
    subst h2; subst h; exact h1
theorem val_filter (l : Lab) (S : Str → Bool) (n : Str) (h : S n = true) : valL (l.filter fun p => S p.1) n = valL l n := by
  unfold valL
  rw [List.find?_filter]
  congr 1
  induction l with
  | nil => rfl
  | cons p r ih =>
    rw [List.find?_cons, List.find?_cons]
    by_cases c : p.1 = n
    · subst c; simp [h]
    · simp [c]; simpa using ih
/-- ascending labels with the same pairs are the same -/
theorem asc_ext {l m : Lab} (hl : Asc l) (hm : Asc m) (h : ∀ p, p ∈ l ↔ p ∈ m) : l = m := by
  induction l generalizing m with
  | nil =>
    cases m with
    | nil => rfl
    | cons q r => exact absurd ((h q).mpr List.mem_cons_self) (by simp)
  | cons p l ih =>
    cases m with
    | nil => exact absurd ((h p).mp List.mem_cons_self) (by simp)
    | cons q m =>
      have e : p = q := by
        rcases List.mem_cons.mp ((h p).mp List.mem_cons_self) with e | e
        · exact e
        · rcases List.mem_cons.mp ((h q).mpr List.mem_cons_self) with e2 | e2
          · exact e2.symm
          · exact absurd (List.rel_of_pairwise_cons hl e2) (ltS'_asy (List.rel_of_pairwise_cons hm e))
      subst e
      have hl1 : ∀ z ∈ l, z ≠ p := fun z hz e => by subst e; exact ltS'_irr _ (List.rel_of_pairwise_cons hl hz)
      have hm1 : ∀ z ∈ m, z ≠ p := fun z hz e => by subst e; exact ltS'_irr _ (List.rel_of_pairwise_cons hm hz)
      rw [ih (List.Pairwise.of_cons hl) (List.Pairwise.of_cons hm) fun z => ⟨fun hz => by
        rcases List.mem_cons.mp ((h z).mp (List.mem_cons_of_mem _ hz)) with e | e
        · exact absurd e (hl1 z hz)
        · exact e, fun hz => by
        rcases List.mem_cons.mp ((h z).mpr (List.mem_cons_of_mem _ hz)) with e | e
        · exact absurd e (hm1 z hz)
        · exact e⟩]
/-- two ascending labels agree on the names of S exactly if their parts by S are the same -/
theorem asc_part {l m : Lab} (hl : Asc l) (hm : Asc m) (vl : ∀ p ∈ l, p.2 ≠ "") (vm : ∀ p ∈ m, p.2 ≠ "") (S : Str → Bool) : (l.filter fun p => S p.1) = (m.filter fun p => S p.1) ↔ ∀ n, S n = true → valL l n = valL m n := by
  constructor
  · intro h n hn
    rw [← val_filter l S n hn, h, val_filter m S n hn]
  · intro h
    refine asc_ext (hl.filter _) (hm.filter _) fun p => ?_
    rw [List.mem_filter, List.mem_filter]
    constructor
    · rintro ⟨h1, h2⟩
      have := h _ h2
      rw [hl.mem_val h1] at this
      exact ⟨val_mem this.symm (vl _ h1), h2⟩
    · rintro ⟨h1, h2⟩
      have := h _ h2
      rw [hm.mem_val h1] at this
      exact ⟨val_mem this (vm _ h1), h2⟩
theorem eqvAll_labs : ∀ l m : Lab, PyData.eqvAll (l.map encP) (m.map encP) = decide (l = m)
  | [], [] => rfl
  | [], _ :: _ => by simp [PyData.eqvAll]
  | _ :: _, [] => by simp [PyData.eqvAll]
  | p :: l, q :: m => by
    show (PyData.eqv (encP p) (encP q) && PyData.eqvAll (l.map encP) (m.map encP)) = _
    rw [eqvAll_labs l m]
    have : PyData.eqv (encP p) (encP q) = decide (p = q) := by
      show (PyData.eqv (.str p.1) (.str q.1) && (PyData.eqv (.str p.2) (.str q.2) && true)) = _
      simp [PyData.eqv, Bool.beq_eq_decide_eq, Prod.ext_iff]
    rw [this]; simp
theorem eqv_lab (l m : Lab) : PyData.eqv (encB l) (encB m) = decide (l = m) := eqvAll_labs l m
theorem eqS_lab' (neg : Bool) (l m : Lab) : eqS neg (.d (encB l)) (.d (encB m)) = .ok (.d (.bool (if neg then !decide (l = m) else decide (l = m)))) := by
  rw [eqS_lab, eqv_lab]
end Pl
namespace Pl
open PySem PySem.Spec PyProof.Rows L2
/-! ### loops that may answer, by a plain search -/
theorem forF_some {α : Type} (g : α → D) (q : α → Option SV) {k : D → En → R En} {b : En → R Fl} {ρ0 : En} : ∀ us : List α, (∀ a ∈ us, ∃ ρ1, k (g a) ρ0 = .ok ρ1 ∧ b ρ1 = .ok (match q a with | some r => .rt r | none => .nx ρ0)) → forF k b (us.map g) ρ0 = .ok (match us.findSome? q with | some r => .rt r | none => .nx ρ0)
  | [], _ => rfl
  | a :: us, h => by
    obtain ⟨ρ1, h1, h2⟩ := h a List.mem_cons_self
    have ih := forF_some g q us fun x hx => h x (List.mem_cons_of_mem _ hx)
    rw [List.map_cons, forF, h1, List.findSome?_cons]
    simp only [h2]
    cases hq : q a with
    | some r => rfl
    | none => exact ih
theorem forF_any {α : Type} (g : α → D) (p : α → Bool) (r : SV) {k : D → En → R En} {b : En → R Fl} {ρ0 : En} (us : List α) (h : ∀ a ∈ us, ∃ ρ1, k (g a) ρ0 = .ok ρ1 ∧ b ρ1 = if p a = true then .ok (.rt r) else .ok (.nx ρ0)) : forF k b (us.map g) ρ0 = if us.any p = true then .ok (.rt r) else .ok (.nx ρ0) := by
  have q := forF_some g (fun a => if p a = true then some r else none) (k := k) (b := b) (ρ0 := ρ0) us fun a ha => by
    obtain ⟨ρ1, h1, h2⟩ := h a ha
    refine ⟨ρ1, h1, ?_⟩
    rw [h2]
    cases p a <;> rfl
  rw [q]
  clear q h
  induction us with
  | nil => rfl
  | cons a us ih =>
    rw [List.findSome?_cons, List.any_cons]
    cases p a with
    | true => rfl
    | false => simpa using ih
/-- a loop that leaves when an item fails -/
theorem forF_all {α : Type} (g : α → D) (p : α → Bool) (r : SV) {k : D → En → R En} {b : En → R Fl} {ρ0 : En} (us : List α) (h : ∀ a ∈ us, ∃ ρ1, k (g a) ρ0 = .ok ρ1 ∧ b ρ1 = if p a = true then .ok (.nx ρ0) else .ok (.rt r)) : forF k b (us.map g) ρ0 = if us.all p = true then .ok (.nx ρ0) else .ok (.rt r) := by
  have q := forF_any g (fun a => !p a) r (k := k) (b := b) (ρ0 := ρ0) us fun a ha => by
    obtain ⟨ρ1, h1, h2⟩ := h a ha
    refine ⟨ρ1, h1, ?_⟩
    rw [h2]
    cases p a <;> rfl
  rw [q]
  have : us.all p = !(us.any fun a => !p a) := by rw [List.all_eq_not_any_not]
  rw [this]
  cases us.any fun a => !p a <;> rfl
/-- a loop that goes on -/
theorem forF_go {α : Type} (g : α → D) {k : D → En → R En} {b : En → R Fl} {ρ0 : En} (us : List α) (h : ∀ a ∈ us, ∃ ρ1, k (g a) ρ0 = .ok ρ1 ∧ b ρ1 = .ok (.nx ρ0)) : forF k b (us.map g) ρ0 = .ok (.nx ρ0) := by
  have q := forF_all g (fun _ => true) (.d .none) (k := k) (b := b) (ρ0 := ρ0) us fun a ha => by
    obtain ⟨ρ1, h1, h2⟩ := h a ha
    exact ⟨ρ1, h1, by rw [h2]; rfl⟩
  rw [q, if_pos (by simp)]
theorem list_mem {α : Type} (g : α → D) {us : List α} {i : Nat} {x : D} (h : (us.map g)[i]? = some x) : ∃ a, us[i]? = some a ∧ a ∈ us ∧ x = g a := by
  rw [List.getElem?_map] at h
  cases e : us[i]? with
  | none => rw [e] at h; cases h
  | some a => rw [e] at h; cases h; exact ⟨a, rfl, List.mem_of_getElem? e, rfl⟩
/-! ### plain data of bounded depth -/
theorem plain_mats : ∀ ms : List Mat, PyData.plainAll (ms.map encMt) = true
  | [] => rfl
  | m :: r => by
    show (PyData.plain (encMt m) && PyData.plainAll (r.map encMt)) = true
    rw [plain_mats r, Bool.and_true]
    show (true && (PyData.plainAll (m.vs.map PyData.str) && (true && true))) = true
    rw [plain_strs]; rfl
theorem depth_mats : ∀ ms : List Mat, PyData.depthAll (ms.map encMt) ≤ 2
  | [] => Nat.zero_le _
  | m :: r => by
    show max (PyData.depth (encMt m)) (PyData.depthAll (r.map encMt)) ≤ 2
    have := depth_mats r
    have h : PyData.depth (encMt m) = max 0 (max (PyData.depthAll (m.vs.map PyData.str) + 1) (max 0 0)) + 1 := rfl
    rw [h, depth_strs]; omega
theorem plain_map {α : Type} (g : α → D) (h : ∀ a, PyData.plain (g a) = true) : ∀ us : List α, PyData.plainAll (us.map g) = true
  | [] => rfl
  | a :: r => by
    show (PyData.plain (g a) && PyData.plainAll (r.map g)) = true
    rw [plain_map g h r, h a]; rfl
theorem depth_map {α : Type} (g : α → D) (n : Nat) (h : ∀ a, PyData.depth (g a) ≤ n) : ∀ us : List α, PyData.depthAll (us.map g) ≤ n
  | [] => Nat.zero_le _
  | a :: r => by
    show max (PyData.depth (g a)) (PyData.depthAll (r.map g)) ≤ n
    have := depth_map g n h r
    have := h a
    omega
theorem shp_list {α : Type} (g : α → D) (n : Nat) (hn : n < 60) (h : ∀ a, PyData.plain (g a) = true) (h2 : ∀ a, PyData.depth (g a) ≤ n) (us : List α) : shpD (.list (us.map g)) = true := by
  refine shp_of (plain_map g h us) ?_
  show PyData.depthAll (us.map g) + 1 ≤ 60
  have := depth_map g n h2 us
  omega
theorem plain_lab (l : Lab) : PyData.plain (encB l) = true := plain_labs l
theorem depth_lab (l : Lab) : PyData.depth (encB l) ≤ 2 := by
  show PyData.depthAll (l.map encP) + 1 ≤ 2
  have := depth_labs l
  omega
theorem shaped_labL (P : List Lab) : shpD (.list (P.map encB)) = true := shp_list encB 2 (by omega) plain_lab depth_lab P
theorem any_labs (l : Lab) : ∀ P : List Lab, ((P.map encB).any fun z => PyData.eqv z (encB l)) = decide (l ∈ P)
  | [] => rfl
  | n :: r => by
    rw [List.map_cons, List.any_cons, eqv_lab, any_labs l r]
    by_cases h : n = l
    · subst h; simp
    · have h2 : l ≠ n := fun e => h e.symm
      simp [h, h2]
theorem inS_labs (neg : Bool) (l : Lab) (P : List Lab) {s : SV} (hs : s = .ol (P.map encB) ∨ s = .d (.list (P.map encB))) : inS neg (.d (encB l)) s = .ok (.d (.bool (if neg then !decide (l ∈ P) else decide (l ∈ P)))) := by
  have e := any_labs l P
  have h : shpD (encB l) = true ∧ shpD (.list (P.map encB)) = true := ⟨shaped_lab l, shaped_labL P⟩
  rcases hs with rfl | rfl
  · show (if _ then _ else _) = _
    rw [if_pos h, e]
  · show (if _ then _ else _) = _
    rw [if_pos h, e]
/-! ### encodings in general -/
theorem inS_dl (neg : Bool) (x : D) (ys : List D) (h : shpD x = true) (h2 : shpD (.list ys) = true) {s : SV} (hs : s = .ol ys ∨ s = .d (.list ys)) : inS neg (.d x) s = .ok (.d (.bool (if neg then !(ys.any fun z => PyData.eqv z x) else ys.any fun z => PyData.eqv z x))) := by
  have q : shpD x = true ∧ shpD (.list ys) = true := ⟨h, h2⟩
  rcases hs with rfl | rfl
  · cases x <;> exact (if_pos q : (if shpD _ = true ∧ shpD _ = true then _ else _) = _)
  · cases x <;> exact (if_pos q : (if shpD _ = true ∧ shpD _ = true then _ else _) = _)
theorem any_enc {α : Type} [DecidableEq α] (g : α → D) (he : ∀ a b, PyData.eqv (g a) (g b) = decide (a = b)) (a : α) : ∀ us : List α, ((us.map g).any fun z => PyData.eqv z (g a)) = decide (a ∈ us)
  | [] => rfl
  | n :: r => by
    rw [List.map_cons, List.any_cons, he, any_enc g he a r]
    by_cases h : n = a
    · subst h; simp
    · have h2 : a ≠ n := fun e => h e.symm
      simp [h, h2]
theorem inS_enc {α : Type} [DecidableEq α] (g : α → D) (n : Nat) (hn : n < 60) (hp : ∀ a, PyData.plain (g a) = true) (hd : ∀ a, PyData.depth (g a) ≤ n) (he : ∀ a b, PyData.eqv (g a) (g b) = decide (a = b)) (neg : Bool) (a : α) (us : List α) {s : SV} (hs : s = .ol (us.map g) ∨ s = .d (.list (us.map g))) : inS neg (.d (g a)) s = .ok (.d (.bool (if neg then !decide (a ∈ us) else decide (a ∈ us)))) := by
  rw [inS_dl neg (g a) (us.map g) (shp_of (hp a) (by have := hd a; omega)) (shp_list g n hn hp hd us) hs, any_enc g he]
theorem sorted_enc {α : Type} (g : α → D) (ha : ∀ a b, PySem.W.alike (g a) (g b) = true) (ht : ∀ a, isTup1 (g a) = true) (hd : ∀ a, PyData.depth (g a) ≤ 60) (ps : List α) (h : ps.length < 1000000) : ∃ qs : List α, Pl.sortedS [.ol (ps.map g)] = .ok (.ol (qs.map g)) ∧ qs.Perm ps ∧ qs = ps.mergeSort fun a b => PySem.W.dataLe false id (g a) (g b) := by
  have hz := line16
  refine ⟨ps.mergeSort fun a b => PySem.W.dataLe false id (g a) (g b), ?_, List.mergeSort_perm ps _, rfl⟩
  unfold Pl.sortedS
  have h1 : allAlike (ps.map g) = true := by
    unfold allAlike
    rw [List.all_eq_true]
    intro a h1
    rw [List.all_eq_true]
    intro b h2
    obtain ⟨p, _, rfl⟩ := List.mem_map.mp h1
    obtain ⟨q, _, rfl⟩ := List.mem_map.mp h2
    exact ha p q
  have h2 : sortable (ps.map g) = true := by
    unfold sortable
    rw [Bool.or_eq_true]
    left
    rw [List.all_eq_true]
    intro a h1
    obtain ⟨p, _, rfl⟩ := List.mem_map.mp h1
    exact ht p
  have h3 : ((ps.map g).all fun d => decide (d.depth ≤ 60)) = true := by
    rw [List.all_eq_true]
    intro a h1
    obtain ⟨p, _, rfl⟩ := List.mem_map.mp h1
    exact decide_eq_true (hd p)
  simp only [datL]
  rw [if_pos ⟨h1, h2, h3, by rw [List.length_map]; omega⟩]
  unfold sortD
  congr 2
  exact (List.map_mergeSort (f := g) (s := PySem.W.dataLe false id) (fun a _ b _ => rfl)).symm
theorem alike_labs : ∀ l m : Lab, PySem.W.alikeAll (l.map encP) (m.map encP) = true
  | [], _ => rfl
  | _ :: _, [] => rfl
  | p :: l, q :: m => by
    show PySem.W.alikeAll (encP p :: l.map encP) (encP q :: m.map encP) = true
    rw [PySem.W.alikeAll, alike_labs l m]; rfl
/-! ### runs: labels and a time -/
abbrev RunT := Lab × Int
def encRn (r : RunT) : D := .tuple [encB r.1, .int r.2]
theorem alike_run (a b : RunT) : PySem.W.alike (encRn a) (encRn b) = true := by
  show PySem.W.alikeAll [encB a.1, .int a.2] [encB b.1, .int b.2] = true
  rw [PySem.W.alikeAll, PySem.W.alikeAll, PySem.W.alikeAll]
  show (PySem.W.alikeAll (a.1.map encP) (b.1.map encP) && (true && true)) = true
  rw [alike_labs]; rfl
theorem plain_run (a : RunT) : PyData.plain (encRn a) = true := by
  show (PyData.plain (encB a.1) && (true && true)) = true
  rw [plain_lab]; rfl
theorem depth_run (a : RunT) : PyData.depth (encRn a) ≤ 3 := by
  show max (PyData.depth (encB a.1)) (max 0 0) + 1 ≤ 3
  have := depth_lab a.1
  omega
theorem eqv_run (a b : RunT) : PyData.eqv (encRn a) (encRn b) = decide (a = b) := by
  show (PyData.eqv (encB a.1) (encB b.1) && (PyData.eqv (.int a.2) (.int b.2) && true)) = _
  rw [eqv_lab, eqv_int]
  simp [Prod.ext_iff, Bool.beq_eq_decide_eq]
theorem inS_runs (neg : Bool) (a : RunT) (us : List RunT) {s : SV} (hs : s = .ol (us.map encRn) ∨ s = .d (.list (us.map encRn))) : inS neg (.d (encRn a)) s = .ok (.d (.bool (if neg then !decide (a ∈ us) else decide (a ∈ us)))) := (inS_enc encRn 3 (by omega) plain_run depth_run eqv_run neg a us hs).trans (by congr)
theorem sorted_runs (ps : List RunT) (h : ps.length < 1000000) : ∃ qs : List RunT, Pl.sortedS [.ol (ps.map encRn)] = .ok (.ol (qs.map encRn)) ∧ qs.Perm ps := let ⟨qs, a, b, _⟩ := sorted_enc encRn alike_run (fun _ => rfl) (fun a => by have := depth_run a; omega) ps h; ⟨qs, a, b⟩
end Pl
namespace Pl
open PySem PySem.Spec PyProof.Rows L2
section
variable {fa fb : En → R SV} {ρ : En} {k : D → En → R En} {f : En → R Fl} {i : Nat}
@[simp] theorem enumD_ap : enumD fa ρ = (fa ρ >>= fun a => match a with
  | .d (.list xs) => .ok (pairUp xs)
  | .ol xs => .ok (pairUp xs)
  | .d (.tuple xs) => .ok (pairUp xs)
  | _ => .bad) := nrfl rfl
@[simp] theorem forP_ap : forP i k f ρ = (match ρ[i]? with
  | some (some (.ol xs)) => forF k f xs (ρ.set i (some (.pin xs))) >>= unpin i
  | some (some (.pin xs)) => forF k f xs ρ
  | some (some (.d (.list xs))) => forF k f xs ρ
  | some (some (.d (.tuple xs))) => forF k f xs ρ
  | _ => .bad) := nrfl rfl
@[simp] theorem npin_pin (x : List D) : SV.npin (.pin x) = false := nrfl rfl
@[simp] theorem unpin_nx (ρ : En) : unpin i (.nx ρ) = (match ρ[i]? with
    | some (some (.pin ys)) => .ok (.nx (ρ.set i (some (.ol ys))))
    | _ => .bad) := nrfl rfl
@[simp] theorem lcmS_i (a b : Int) : lcmS [.d (.int a), .d (.int b)] = if okB a = true ∧ okB b = true then .ok (.d (.int ((Nat.lcm a.natAbs b.natAbs : Nat) : Int))) else .bad := nrfl rfl
@[simp] theorem unpin_rt (r : SV) : unpin i (.rt r) = .ok (.rt r) := nrfl rfl
@[simp] theorem repS_ol (xs : List D) (n : Int) : repS (.ol xs) (.d (.int n)) = if 0 ≤ n ∧ n ≤ 1000 ∧ xs.length ≤ 1000 then .ok (.ol (List.replicate n.toNat xs).flatten) else .bad := nrfl rfl
end
/-- a loop that leaves at the first item that passes -/
theorem forF_find {α : Type} (g : α → D) (p : α → Bool) (r : α → SV) {k : D → En → R En} {b : En → R Fl} {ρ0 : En} (us : List α) (h : ∀ a ∈ us, ∃ ρ1, k (g a) ρ0 = .ok ρ1 ∧ b ρ1 = if p a = true then .ok (.rt (r a)) else .ok (.nx ρ0)) : forF k b (us.map g) ρ0 = .ok (match us.find? p with | some a => .rt (r a) | none => .nx ρ0) := by
  have q := forF_some g (fun a => if p a = true then some (r a) else none) (k := k) (b := b) (ρ0 := ρ0) us fun a ha => by
    obtain ⟨ρ1, h1, h2⟩ := h a ha
    refine ⟨ρ1, h1, ?_⟩
    rw [h2]
    cases p a <;> rfl
  rw [q]
  clear q h
  induction us with
  | nil => rfl
  | cons a us ih =>
    rw [List.findSome?_cons, List.find?_cons]
    cases p a with
    | true => rfl
    | false => simpa using ih
theorem lcF_mapα {α : Type} (g0 : α → D) {k : D → En → R En} {t : En → R Bool} {e : En → R SV} {ρ0 : En} (p : α → Bool) (g : α → D) : ∀ (us : List α), (∀ x, x ∈ us → ∃ ρ1, k (g0 x) ρ0 = .ok ρ1 ∧ t ρ1 = .ok (p x) ∧ (p x = true → ∃ r, e ρ1 = .ok r ∧ datS r = .ok (g x))) → lcF k t e ρ0 (us.map g0) = .ok ((us.filter p).map g)
  | [], _ => rfl
  | x :: us, h => by
    obtain ⟨ρ1, h1, h2, h3⟩ := h x List.mem_cons_self
    have ih := lcF_mapα g0 (k := k) (t := t) (e := e) (ρ0 := ρ0) p g us fun x hx => h x (List.mem_cons_of_mem _ hx)
    rw [List.map_cons]
    unfold lcF
    simp only [h1, h2, ok_bind]
    cases hp : p x with
    | false =>
      rw [List.filter_cons_of_neg (by simp [hp])]
      simpa using ih
    | true =>
      obtain ⟨r, h4, h5⟩ := h3 hp
      rw [List.filter_cons_of_pos hp]
      simp [h4, h5, ih]
theorem irng_at {a b : Int} {i : Nat} (h : i < (b - a).toNat) : (irng a b)[i]? = some (a + (i : Nat)) := by
  unfold irng
  rw [List.getElem?_map, List.getElem?_range h]; rfl
theorem pairUp_irng {α : Type} (g : α → D) (ms : List α) : pairUp (ms.map g) = (irng 0 ms.length).map fun k => .tuple [.int k, (ms[k.toNat]?.map g).getD .none] := by
  apply List.ext_getElem?
  intro i
  by_cases h : i < ms.length
  · have e : (ms.map g)[i]? = some (g (ms[i]'h)) := by simp [h]
    rw [pairUp_at e, List.getElem?_map, irng_at (by omega)]
    simp [h]
  · rw [List.getElem?_eq_none (by simp; omega), List.getElem?_eq_none (by simp [irng_len]; omega)]
end Pl
namespace Pl
open PySem PySem.Spec PyProof.Rows L2
section
variable {ρ : En} {i n : Nat} {f : Nat → Bool} {hit : Nat → Bool} {b h : En → R Fl}
@[simp] theorem raiseS_ap : raiseS n ρ = .ex n [] := nrfl rfl
@[simp] theorem isE_ap : isE i f ρ = (match ρ[i]? with
  | some (some (.exn n _)) => .ok (.d (.bool (f n)))
  | _ => .bad) := nrfl rfl
@[simp] theorem bareE_nil : bareE [] = [] := nrfl rfl
@[simp] theorem bareE_d (x : D) : bareE (some (.d x) :: ρ) = some (.d x) :: bareE ρ := nrfl rfl
@[simp] theorem bareE_ol (x : List D) : bareE (some (.ol x) :: ρ) = none :: bareE ρ := nrfl rfl
@[simp] theorem bareE_no : bareE (none :: ρ) = none :: bareE ρ := nrfl rfl
@[simp] theorem fenceF_d (x : D) : fenceF (.rt (.d x)) = .ok (.rt (.d x)) := nrfl rfl
@[simp] theorem fenceF_ol (x : List D) : fenceF (.rt (.ol x)) = .ok (.rt (.ol x)) := nrfl rfl
@[simp] theorem outF_rt (r : SV) : outF i (.rt r) = fenceF (.rt r) := nrfl rfl
theorem tryAs_ok {fl : Fl} (e : b (bareE ρ) = .ok fl) : tryAs i hit b h ρ = fenceF fl := by unfold tryAs; rw [e]
theorem tryAs_ex {as : List D} (e : b (bareE ρ) = .ex n as) (t : hit n = true) : tryAs i hit b h ρ = (h ((bareE ρ).set i (some (.exn n as))) >>= outF i) := by
  unfold tryAs; rw [e]; simp only [t, if_true]
theorem tryOn_ok {fl : Fl} (e : b (bareE ρ) = .ok fl) : tryOn hit b h ρ = fenceF fl := by unfold tryOn; rw [e]
theorem tryOn_ex {as : List D} (e : b (bareE ρ) = .ex n as) (t : hit n = true) : tryOn hit b h ρ = (h (bareE ρ) >>= fenceF) := by
  unfold tryOn; rw [e]; simp only [t, if_true]
end
/-- the first that passes is the same for two tests -/
theorem find_two {α : Type} {p q : α → Bool} : ∀ us : List α, (∀ s, us.find? q = some s → p s = true) → (∀ s ∈ us, p s = true → q s = true) → us.find? p = us.find? q
  | [], _, _ => rfl
  | a :: us, h1, h2 => by
    cases hq : q a with
    | true =>
      have := h1 a (by rw [List.find?_cons, hq])
      rw [List.find?_cons, List.find?_cons, hq, this]
    | false =>
      have hp : p a = false := by
        cases hp : p a with
        | false => rfl
        | true => rw [h2 a List.mem_cons_self hp] at hq; cases hq
      rw [List.find?_cons, List.find?_cons, hq, hp]
      exact find_two us (fun s e => h1 s (by rw [List.find?_cons, hq]; exact e)) fun s hs => h2 s (List.mem_cons_of_mem _ hs)
theorem irng_first {q : Int → Bool} {b : Int} : ∀ (n : Nat) (a s : Int), (b - a).toNat = n → (irng a b).find? q = some s → a ≤ s ∧ s < b ∧ q s = true ∧ ∀ t, a ≤ t → t < s → q t = false
  | 0, a, s, hn, e => by rw [irng_nil (by omega)] at e; cases e
  | n + 1, a, s, hn, e => by
    rw [irng_cons (by omega), List.find?_cons] at e
    cases hq : q a with
    | true =>
      rw [hq] at e; cases e
      exact ⟨by omega, by omega, hq, fun t h1 h2 => by omega⟩
    | false =>
      rw [hq] at e
      obtain ⟨h1, h2, h3, h4⟩ := irng_first n (a + 1) s (by omega) e
      refine ⟨by omega, h2, h3, fun t ht1 ht2 => ?_⟩
      by_cases z : t = a
      · rw [z]; exact hq
      · exact h4 t (by omega) ht2
/-! ### a row that is turned -/
theorem rot_iff {α : Type} {xs : List α} {k : Nat} (hk : k ≤ xs.length) : xs.drop k ++ xs.take k = xs ↔ ∀ i, i < xs.length → xs[(i + k) % xs.length]? = xs[i]? := by
  have at_ : ∀ i, i < xs.length → (xs.drop k ++ xs.take k)[i]? = xs[(i + k) % xs.length]? := fun i hi => by
    by_cases h : i < xs.length - k
    · rw [List.getElem?_append_left (by rw [List.length_drop]; exact h), List.getElem?_drop, Nat.mod_eq_of_lt (by omega), Nat.add_comm]
    · rw [List.getElem?_append_right (by rw [List.length_drop]; omega), List.length_drop, List.getElem?_take]
      have e : (i + k) % xs.length = i - (xs.length - k) := by
        rw [Nat.mod_eq_sub_mod (by omega), Nat.mod_eq_of_lt (by omega)]; omega
      rw [if_pos (by omega), e]
  constructor
  · intro h i hi
    rw [← at_ i hi, h]
  · intro h
    refine List.ext_getElem? fun i => ?_
    by_cases hi : i < xs.length
    · rw [at_ i hi, h i hi]
    · rw [List.getElem?_eq_none (by rw [List.length_append, List.length_drop, List.length_take]; omega), List.getElem?_eq_none (by omega)]
/-- the least turn that leaves a row as it is divides its length -/
theorem rot_least {α : Type} {xs : List α} {k : Nat} (h0 : 0 < k) (hk : k < xs.length) (h : xs.drop k ++ xs.take k = xs) (hl : ∀ t, 0 < t → t < k → ¬ xs.drop t ++ xs.take t = xs) : k ∣ xs.length := by
  have hn : 0 < xs.length := by omega
  have p : ∀ i, xs[(i + k) % xs.length]? = xs[i % xs.length]? := fun i => by
    have := (rot_iff (by omega)).mp h (i % xs.length) (Nat.mod_lt _ hn)
    rw [← this, Nat.mod_add_mod]
  have pq : ∀ q i, xs[(i + k * q) % xs.length]? = xs[i % xs.length]? := by
    intro q
    induction q with
    | zero => intro i; rfl
    | succ q ih =>
      intro i
      rw [Nat.mul_succ, ← Nat.add_assoc, p, ih]
  rcases Nat.eq_zero_or_pos (xs.length % k) with z | z
  · exact Nat.dvd_of_mod_eq_zero z
  · exfalso
    have ht := Nat.mod_lt xs.length h0
    refine hl (xs.length % k) z ht ((rot_iff (by omega)).mpr fun i hi => ?_)
    have e := pq (xs.length / k) (i + xs.length % k)
    have d := Nat.mod_add_div xs.length k
    rw [← e, show i + xs.length % k + k * (xs.length / k) = i + xs.length by omega, Nat.add_mod_right, Nat.mod_eq_of_lt hi]
end Pl
namespace Pl
open PySem PySem.Spec PyProof.Rows L2
section
variable {ρ : En} {i : Nat} {f fk fx : En → R SV}
@[simp] theorem npin_pd (x : List (Key × D)) : SV.npin (.pd x) = false := nrfl rfl
@[simp] theorem dnewS_ap : dnewS ρ = .ok (.od []) := nrfl rfl
@[simp] theorem key1_s (s : Str) : key1 (.d (.str s)) = .ok (.inr s) := nrfl rfl
@[simp] theorem key1_i (s : Int) : key1 (.d (.int s)) = .ok (.inl s) := nrfl rfl
@[simp] theorem dictOf_od (k : List (Key × D)) : dictOf (.od k) = some k := nrfl rfl
@[simp] theorem dictOf_sd (k : List (Key × D)) : dictOf (.sd k) = some k := nrfl rfl
@[simp] theorem dictOf_pd (k : List (Key × D)) : dictOf (.pd k) = some k := nrfl rfl
@[simp] theorem putS_ap : putS i fk f ρ = (f ρ >>= fun r => datS r >>= fun d => match ρ[i]? with
  | some (some (.od kvs)) => fk ρ >>= fun kk => match key1 kk with
    | .ok k => if kvs.length < sizeLine then .ok (.nx (ρ.set i (some (.od (putD kvs k d))))) else .bad
    | _ => .bad
  | _ => .bad) := nrfl rfl
@[simp] theorem dgetS_ap : dgetS i fk ρ = (match ρ[i]? with
  | some (some r) => (match dictOf r with
    | some kvs => fk ρ >>= fun kk => match key1 kk with
      | .ok k => (match valD kvs k with
        | some d => .ok (.d d)
        | none => .bad)
      | _ => .bad
    | none => .bad)
  | _ => .bad) := nrfl rfl
@[simp] theorem dget2S_ap : dget2S i fk fx ρ = (match ρ[i]? with
  | some (some r) => (match dictOf r with
    | some kvs => fk ρ >>= fun kk => match key1 kk with
      | .ok k => fx ρ >>= fun x => (match x with
        | .d x => .ok (.d ((valD kvs k).getD x))
        | _ => .bad)
      | _ => .bad
    | none => .bad)
  | _ => .bad) := nrfl rfl
@[simp] theorem inDS_ap (neg : Bool) : inDS neg i fk ρ = (fk ρ >>= fun kk => match key1 kk with
  | .ok k => (match ρ[i]? with
    | some (some r) => (match dictOf r with
      | some kvs => .ok (.d (.bool (if neg then !(valD kvs k).isSome else (valD kvs k).isSome)))
      | none => .bad)
    | _ => .bad)
  | _ => .bad) := nrfl rfl
@[simp] theorem keysD_ap : keysD i ρ = (match ρ[i]? with
  | some (some (.pd kvs)) => .ok (kvs.map fun kv => keyD kv.1)
  | _ => .bad) := nrfl rfl
end
/-! ### a dict from texts to data -/
def encK {α : Type} (g : α → D) (F : List (Str × α)) : List (Key × D) := F.map fun q => ((Sum.inr q.1 : Key), g q.2)
def valF {α : Type} (F : List (Str × α)) (p : Str) : Option α := (F.find? fun q => decide (q.1 = p)).map (·.2)
theorem valD_enc {α : Type} (g : α → D) (p : Str) : ∀ F : List (Str × α), valD (encK g F) (.inr p) = (valF F p).map g
  | [] => rfl
  | q :: F => by
    have ih := valD_enc g p F
    unfold valD valF encK at ih ⊢
    rw [List.map_cons, List.find?_cons, List.find?_cons]
    by_cases c : q.1 = p
    · simp [c]
    · have c' : ¬ (Sum.inr q.1 : Key) = .inr p := fun z => c (by injection z)
      simp only [c, c', decide_false]
      exact ih
theorem valF_some {α : Type} (p : Str) : ∀ F : List (Str × α), (valF F p).isSome = decide (p ∈ F.map (·.1))
  | [] => rfl
  | q :: F => by
    have ih := valF_some p F
    unfold valF at ih ⊢
    rw [List.find?_cons, List.map_cons]
    by_cases c : q.1 = p
    · simp [c]
    · have c2 : ¬ p = q.1 := fun z => c z.symm
      simp only [c, decide_false, List.mem_cons, c2, false_or]
      exact ih
theorem valF_at {α : Type} : ∀ {F : List (Str × α)} {q : Str × α}, (F.map (·.1)).Nodup → q ∈ F → valF F q.1 = some q.2
  | r :: F, q, nd, h => by
    rw [List.map_cons, List.nodup_cons] at nd
    unfold valF
    rw [List.find?_cons]
    rcases List.mem_cons.mp h with rfl | h
    · simp
    · have c : ¬ r.1 = q.1 := fun z => nd.1 (by rw [z]; exact List.mem_map.mpr ⟨q, h, rfl⟩)
      simp only [c, decide_false]
      exact valF_at nd.2 h
theorem putD_new {α : Type} (g : α → D) {F : List (Str × α)} {p : Str} {x : α} (h : p ∉ F.map (·.1)) : putD (encK g F) (.inr p) (g x) = encK g (F ++ [(p, x)]) := by
  have : ((encK g F).any fun kv => decide (kv.1 = (.inr p : Key))) = false := by
    rw [List.any_eq_false]
    intro kv hk
    obtain ⟨q, hq, rfl⟩ := List.mem_map.mp hk
    simp only [decide_eq_true_eq]
    intro z
    injection z with z
    exact h (List.mem_map.mpr ⟨q, hq, z⟩)
  unfold putD
  rw [this]
  simp [encK]
end Pl
/-! Pm9: simp lemmas for keyed dicts; tables from labels; sorting labels. -/
namespace Pl
open PySem PySem.Spec PyProof.Rows L2
section
variable {ρ : En} {i : Nat} {f fk fx fd : En → R SV}
@[simp] theorem knewS_ap : knewS ρ = .ok (.kd []) := nrfl rfl
@[simp] theorem kdOf_kd (k : List (NestedKey × D)) : kdOf (.kd k) = some k := nrfl rfl
@[simp] theorem kdOf_sk (k : List (NestedKey × D)) : kdOf (.sk k) = some k := nrfl rfl
@[simp] theorem kputS_ap : kputS i fk f ρ = (f ρ >>= fun r => datS r >>= fun d => match ρ[i]? with
  | some (some (.kd kvs)) => fk ρ >>= fun kk => match kdKey kk with
    | .ok k => if kvs.length < sizeLine then .ok (.nx (ρ.set i (some (.kd (putD kvs k d))))) else .bad
    | _ => .bad
  | _ => .bad) := nrfl rfl
@[simp] theorem kget_ap : kget fd fk ρ = (fd ρ >>= fun r => fk ρ >>= fun kk => kgS r kk) := nrfl rfl
@[simp] theorem kget1_ap : kget1 fd fk ρ = (fd ρ >>= fun r => match kdOf r with
  | some kvs => fk ρ >>= fun kk => kg1 kvs kk (.d .none)
  | none => .bad) := nrfl rfl
@[simp] theorem kget2_ap : kget2 fd fk fx ρ = (fd ρ >>= fun r => match kdOf r with
  | some kvs => fk ρ >>= fun kk => fx ρ >>= fun x => kg1 kvs kk x
  | none => .bad) := nrfl rfl
@[simp] theorem kin_ap (neg : Bool) : kin neg fk fd ρ = (fk ρ >>= fun kk => fd ρ >>= fun r => kinS neg kk r) := nrfl rfl
@[simp] theorem kkeysD_ap : kkeysD i ρ = (match ρ[i]? with
  | some (some (.sk kvs)) => .ok (kvs.map fun kv => kv.1.data)
  | _ => .bad) := nrfl rfl
@[simp] theorem insAt_ap : insAt i fk f ρ = (match ρ[i]? with
  | some (some (.ol _)) => insS i fk f ρ
  | _ => .bad) := nrfl rfl
@[simp] theorem insS_ap : insS i fk f ρ = (fk ρ >>= fun kk => f ρ >>= fun r => datS r >>= fun d => match kk, ρ[i]? with
  | .d (.int k), some (some (.ol xs)) => if 0 ≤ k ∧ k ≤ xs.length ∧ xs.length < sizeLine then .ok (.nx (ρ.set i (some (.ol (xs.take k.toNat ++ [d] ++ xs.drop k.toNat))))) else .bad
  | _, _ => .bad) := nrfl rfl
end
theorem callP_ok {n : Nat} {g : List D → R SV} {f : En → R (List SV)} {ρ : En} {rs : List SV} {ds : List D} {r : SV} (h : f ρ = .ok rs) (h2 : datsS rs = .ok ds) (hl : ds.length = n) (h3 : g ds = .ok r) (hs : scalS r = true) : callP n g f ρ = .ok r := by
  unfold callP
  rw [h, ok_bind]
  simp only [h2, hl, h3, hs, if_true]
/-! ### tables from keys of a kind -/
section
variable {α β : Type} [DecidableEq α]
def tblN (kf : α → NestedKey) (g : β → D) (F : List (α × β)) : List (NestedKey × D) := F.map fun q => (kf q.1, g q.2)
def lkp (F : List (α × β)) (a : α) : Option β := (F.find? fun q => decide (q.1 = a)).map (·.2)
def putF (F : List (α × β)) (a : α) (b : β) : List (α × β) := if (lkp F a).isSome = true then F.map (fun q => if q.1 = a then (q.1, b) else q) else F ++ [(a, b)]
theorem lkp_pos {q : α × β} {F : List (α × β)} {a : α} (e : q.1 = a) : lkp (q :: F) a = some q.2 := by simp [lkp, List.find?_cons, e]
theorem lkp_neg {q : α × β} {F : List (α × β)} {a : α} (e : ¬ q.1 = a) : lkp (q :: F) a = lkp F a := by simp [lkp, List.find?_cons, e]
theorem valD_tbl {kf : α → NestedKey} (hk : ∀ a b, kf a = kf b → a = b) (g : β → D) (a : α) : ∀ F : List (α × β), valD (tblN kf g F) (kf a) = (lkp F a).map g
  | [] => rfl
  | q :: F => by
    have ih := valD_tbl hk g a F
    by_cases c : q.1 = a
    · rw [lkp_pos c]; simp [valD, tblN, List.find?_cons, c]
    · rw [lkp_neg c, ← ih]
      have c' : ¬ kf q.1 = kf a := fun z => c (hk _ _ z)
      simp [valD, tblN, List.find?_cons, c']
theorem putD_tbl {kf : α → NestedKey} (hk : ∀ a b, kf a = kf b → a = b) (g : β → D) (F : List (α × β)) (a : α) (b : β) : putD (tblN kf g F) (kf a) (g b) = tblN kf g (putF F a b) := by
  unfold putD putF
  rw [valD_any, valD_tbl hk]
  rw [Option.isSome_map]
  split
  · unfold tblN
    rw [List.map_map, List.map_map]
    refine List.map_congr_left fun q _ => ?_
    by_cases c : q.1 = a
    · simp [c]
    · have c' : ¬ kf q.1 = kf a := fun z => c (hk _ _ z)
      simp [c, c']
  · simp [tblN]
theorem lkp_snoc (a c : α) (b : β) : ∀ F : List (α × β), lkp F a = none → lkp (F ++ [(a, b)]) c = if c = a then some b else lkp F c
  | [], _ => by
    by_cases e : a = c
    · rw [if_pos e.symm]; exact lkp_pos (q := (a, b)) e
    · rw [if_neg (fun z => e z.symm)]; exact lkp_neg (q := (a, b)) e
  | p :: r, hn => by
    rw [List.cons_append]
    have hk : ¬ p.1 = a := fun z => by rw [lkp_pos z] at hn; cases hn
    rw [lkp_neg hk] at hn
    have ih := lkp_snoc a c b r hn
    by_cases e : p.1 = c
    · rw [lkp_pos e, lkp_pos e, if_neg (fun z => hk (e.trans z))]
    · rw [lkp_neg e, lkp_neg e, ih]
theorem lkp_map (a c : α) (b : β) : ∀ F : List (α × β), lkp (F.map fun q => if q.1 = a then (q.1, b) else q) c = (lkp F c).map fun x => if c = a then b else x
  | [] => rfl
  | p :: r => by
    have ih := lkp_map a c b r
    rw [List.map_cons]
    by_cases h : p.1 = a
    · rw [if_pos h]
      by_cases e : p.1 = c
      · rw [lkp_pos (q := (p.1, b)) e, lkp_pos e, Option.map_some, if_pos (e.symm.trans h)]
      · rw [lkp_neg (q := (p.1, b)) e, lkp_neg e, ih]
    · rw [if_neg h]
      by_cases e : p.1 = c
      · rw [lkp_pos (q := p) e, lkp_pos e, Option.map_some, if_neg (fun z => h (e.trans z))]
      · rw [lkp_neg (q := p) e, lkp_neg e, ih]
theorem lkp_put (F : List (α × β)) (a c : α) (b : β) : lkp (putF F a b) c = if c = a then some b else lkp F c := by
  unfold putF
  by_cases h : (lkp F a).isSome = true
  · rw [if_pos h, lkp_map]
    by_cases e : c = a
    · obtain ⟨x, hx⟩ := Option.isSome_iff_exists.mp h
      rw [if_pos e, e, hx, Option.map_some, if_pos rfl]
    · rw [if_neg e]
      cases lkp F c with
      | none => rfl
      | some x => rw [Option.map_some, if_neg e]
  · rw [if_neg h]
    refine lkp_snoc a c b F ?_
    cases q : lkp F a with
    | none => rfl
    | some x => rw [q] at h; exact (h rfl).elim
theorem lkp_some (a : α) : ∀ F : List (α × β), (lkp F a).isSome = decide (a ∈ F.map (·.1))
  | [] => rfl
  | q :: F => by
    have ih := lkp_some a F
    rw [List.map_cons]
    by_cases c : q.1 = a
    · rw [lkp_pos c]; simp [c]
    · have c2 : ¬ a = q.1 := fun z => c z.symm
      rw [lkp_neg c, ih]; simp [c2]
theorem lkp_at : ∀ {F : List (α × β)} {q : α × β}, (F.map (·.1)).Nodup → q ∈ F → lkp F q.1 = some q.2
  | r :: F, q, nd, h => by
    rw [List.map_cons, List.nodup_cons] at nd
    rcases List.mem_cons.mp h with rfl | h
    · exact lkp_pos rfl
    · rw [lkp_neg (fun z => nd.1 (by rw [z]; exact List.mem_map.mpr ⟨q, h, rfl⟩))]
      exact lkp_at nd.2 h
theorem lkp_mem : ∀ {F : List (α × β)} {a : α} {b : β}, lkp F a = some b → (a, b) ∈ F
  | [], _, _, h => by cases h
  | r :: F, a, b, h => by
    by_cases c : r.1 = a
    · rw [lkp_pos c] at h; cases h; subst c; exact List.mem_cons_self
    · rw [lkp_neg c] at h; exact List.mem_cons_of_mem _ (lkp_mem h)
theorem putF_new {F : List (α × β)} {a : α} (b : β) (h : lkp F a = none) : putF F a b = F ++ [(a, b)] := by
  unfold putF
  rw [h]; rfl
theorem putF_len (F : List (α × β)) (a : α) (b : β) : (putF F a b).length ≤ F.length + 1 := by
  unfold putF
  split <;> simp
theorem putF_keys (F : List (α × β)) (a : α) (b : β) : (putF F a b).map (·.1) = if a ∈ F.map (·.1) then F.map (·.1) else F.map (·.1) ++ [a] := by
  unfold putF
  rw [lkp_some]
  by_cases c : a ∈ F.map (·.1)
  · rw [if_pos (decide_eq_true c), if_pos c, List.map_map]
    refine List.map_congr_left fun q _ => ?_
    by_cases e : q.1 = a <;> simp [e]
  · rw [if_neg (by simpa using c), if_neg c]; simp
theorem putF_nodup {F : List (α × β)} {a : α} {b : β} (h : (F.map (·.1)).Nodup) : ((putF F a b).map (·.1)).Nodup := by
  rw [putF_keys]
  split
  · exact h
  · rename_i c
    rw [List.nodup_append]
    refine ⟨h, by simp, ?_⟩
    intro x hx y hy
    simp at hy
    subst hy
    rintro rfl
    exact c hx
end
/-! ### labels as keys -/
def nkP (p : Str × Str) : NestedKey := .tup [.text p.1, .text p.2]
def nkL (l : Lab) : NestedKey := .tup (l.map nkP)
theorem nk_pair (p : Str × Str) : nkD (encP p) = some (nkP p) := by
  simp [encP, nkP, nkD, nkAll]
theorem nk_pairs : ∀ l : Lab, nkAll (l.map encP) = some (l.map nkP)
  | [] => by simp [nkAll]
  | p :: l => by
    rw [List.map_cons, nkAll, nk_pair, nk_pairs l]; rfl
theorem nk_lab (l : Lab) : nkD (encB l) = some (nkL l) := by
  show nkD (.tuple (l.map encP)) = _
  rw [nkD, nk_pairs]; rfl
theorem depth_nkPs : ∀ l : Lab, NestedKey.depthAll (l.map nkP) ≤ 1
  | [] => by simp [NestedKey.depthAll]
  | p :: l => by
    have := depth_nkPs l
    rw [List.map_cons, NestedKey.depthAll]
    simp [nkP, NestedKey.depth, NestedKey.depthAll]; omega
theorem depth_nkL (l : Lab) : (nkL l).depth ≤ 2 := by
  unfold nkL
  rw [NestedKey.depth]
  have := depth_nkPs l
  omega
@[simp] theorem kdKey_lab (l : Lab) : kdKey (.d (encB l)) = .ok (nkL l) := by
  show (match nkD (encB l) with | some k => if k.depth ≤ 8 then R.ok k else .bad | none => .bad) = _
  rw [nk_lab]
  have := depth_nkL l
  simp only
  rw [if_pos (by omega)]
theorem nkPs_inj : ∀ {l m : Lab}, l.map nkP = m.map nkP → l = m
  | [], [], _ => rfl
  | [], _ :: _, h => by simp at h
  | _ :: _, [], h => by simp at h
  | p :: l, q :: m, h => by
    rw [List.map_cons, List.map_cons, List.cons.injEq] at h
    have e : p = q := by
      have h1 := h.1
      unfold nkP at h1
      injection h1 with h1
      injection h1 with h2 h3
      injection h2 with h2
      injection h3 with h3 _
      injection h3 with h3
      exact Prod.ext h2 h3
    rw [e, nkPs_inj h.2]
theorem nkL_inj (l m : Lab) (h : nkL l = nkL m) : l = m := by
  unfold nkL at h
  injection h with h
  exact nkPs_inj h
@[simp] theorem data_nkL (l : Lab) : (nkL l).data = encB l := nk_data _ _ (nk_lab l)
theorem kg1_lab {β : Type} (g : β → D) (F : List (Lab × β)) (l : Lab) (x : D) : kg1 (tblN nkL g F) (.d (encB l)) (.d x) = .ok (.d (((lkp F l).map g).getD x)) := by
  unfold kg1
  rw [kdKey_lab]
  simp only [valD_tbl nkL_inj]
theorem kgS_lab {β : Type} (g : β → D) (F : List (Lab × β)) (l : Lab) (b : β) (h : lkp F l = some b) {r : SV} (hr : r = .kd (tblN nkL g F) ∨ r = .sk (tblN nkL g F)) : kgS r (.d (encB l)) = .ok (.d (g b)) := by
  unfold kgS
  rcases hr with rfl | rfl <;> simp [valD_tbl nkL_inj, h]
theorem kinS_lab {β : Type} (neg : Bool) (g : β → D) (F : List (Lab × β)) (l : Lab) {r : SV} (hr : r = .kd (tblN nkL g F) ∨ r = .sk (tblN nkL g F)) : kinS neg (.d (encB l)) r = .ok (.d (.bool (if neg then !(lkp F l).isSome else (lkp F l).isSome))) := by
  unfold kinS
  rcases hr with rfl | rfl <;> simp [valD_tbl nkL_inj]
/-! ### rows of labels in order -/
def leL (l m : Lab) : Bool := PySem.W.dataLe false id (encB l) (encB m)
def sortL (F : List Lab) : List Lab := F.mergeSort leL
theorem alike_lab (l m : Lab) : PySem.W.alike (encB l) (encB m) = true := alike_labs l m
theorem sortL_ok (F : List Lab) (h : F.length < 1000000) {s : SV} (hs : s = .ol (F.map encB) ∨ s = .d (.list (F.map encB))) : Pl.sortedS [s] = .ok (.ol ((sortL F).map encB)) := by
  obtain ⟨qs, a, _, c⟩ := sorted_enc encB alike_lab (fun l => show isTup1 (.tuple (l.map encP)) = true by rw [isTup1]) (fun l => by have := depth_lab l; omega) F h
  subst c
  rcases hs with rfl | rfl
  · exact a
  · exact a
theorem dlt_irr (d : D) : PySem.W.dataLt d d = false := by
  have h := dle_total id d d
  have e : PySem.W.dataLe false id d d = !PySem.W.dataLt d d := rfl
  rw [Bool.or_self, e] at h
  simpa using h
/-- pairs whose heads are labels are sorted as the labels are -/
theorem sortL_runs (f : Lab → Int) (F : List Lab) (h : F.length < 1000000) : Pl.sortedS [.ol ((F.map fun l => ((l, f l) : RunT)).map encRn)] = .ok (.ol (((sortL F).map fun l => ((l, f l) : RunT)).map encRn)) := by
  obtain ⟨qs, a, _, c⟩ := sorted_enc encRn alike_run (fun _ => rfl) (fun a => by have := depth_run a; omega) (F.map fun l => ((l, f l) : RunT)) (by rw [List.length_map]; exact h)
  rw [a, c]
  congr 3
  unfold sortL
  refine (List.map_mergeSort (f := fun l => ((l, f l) : RunT)) (r := leL) (s := fun a b => PySem.W.dataLe false id (encRn a) (encRn b)) fun a _ b _ => ?_).symm
  show (!PySem.W.dataLt (encB b) (encB a)) = !PySem.W.dataLt (.tuple [encB b, .int (f b)]) (.tuple [encB a, .int (f a)])
  by_cases e : a = b
  · subst e
    rw [dlt_irr, dlt_irr]
  · rw [PySem.W.dataLt_pair (alike_lab b a) (by rfl), eqv_lab]
    have e2 : ¬ b = a := fun z => e z.symm
    simp [e2]
end Pl
/-! PmA: order of alike data; samples (labels, time, value), views. -/
namespace Pl
open PySem PySem.Spec PyProof.Rows L2
section
open PySem.W
theorem dlt_eq (x y : D) : dataLt x y = PyProof.Rows.lexLt itemOrd (keyToks x) (keyToks y) := rfl
/-- of two alike data that differ one is less -/
theorem dlt_tri {x y : D} (h : alike x y = true) (e : PyData.eqv x y = false) (n : dataLt x y = false) : dataLt y x = true := by
  cases c : dataLt y x with
  | true => rfl
  | false =>
    exfalso
    have t : keyToks x = keyToks y := (listOrd itemOrd).total (keyToks x) (keyToks y) n c
    have q := (toks_eqv x y h).2 e [] [Sum.inl 1]
    rw [t, lex_pre] at q
    have q2 := (toks_eqv x y h).2 e [] []
    rw [t, lex_pre] at q2
    rw [← q2] at q
    revert q
    decide
theorem dlt_cons {x y : D} {xs ys : List D} (h : alike x y = true) : dataLt (.tuple (x :: xs)) (.tuple (y :: ys)) = if PyData.eqv x y = true then dataLt (.tuple xs) (.tuple ys) else dataLt x y := by
  rw [dataLt_tuple, dataLt_tuple]
  cases e : PyData.eqv x y with
  | true => rw [dataLt_all_yes h e]; rfl
  | false => rw [dataLt_all_no h e]; rfl
end
/-! ### samples -/
abbrev Ky := Lab × Int
abbrev Smp := Ky × Int
def encKy (k : Ky) : D := .tuple [encB k.1, .int k.2]
def encS (s : Smp) : D := .tuple [encB s.1.1, .int s.1.2, .int s.2]
def nkKy (k : Ky) : NestedKey := .tup [nkL k.1, .num k.2]
theorem nk_ky (k : Ky) : nkD (encKy k) = some (nkKy k) := by
  show nkD (.tuple [encB k.1, .int k.2]) = _
  rw [nkD, nkAll, nk_lab]
  simp [nkAll, nkD, nkKy]
theorem depth_nkKy (k : Ky) : (nkKy k).depth ≤ 3 := by
  have := depth_nkL k.1
  unfold nkKy
  simp [NestedKey.depth, NestedKey.depthAll]; omega
@[simp] theorem kdKey_ky (l : Lab) (t : Int) : kdKey (.d (.tuple [encB l, .int t])) = .ok (nkKy (l, t)) := by
  show (match nkD (encKy (l, t)) with | some k => if k.depth ≤ 8 then R.ok k else .bad | none => .bad) = _
  rw [nk_ky]
  have := depth_nkKy (l, t)
  simp only
  rw [if_pos (by omega)]
theorem nkKy_inj (a b : Ky) (h : nkKy a = nkKy b) : a = b := by
  unfold nkKy at h
  injection h with h
  injection h with h1 h2
  injection h2 with h2 _
  injection h2 with h2
  exact Prod.ext (nkL_inj _ _ h1) h2
@[simp] theorem data_nkKy (k : Ky) : (nkKy k).data = encKy k := nk_data _ _ (nk_ky k)
theorem kg1_ky (F : List (Ky × Int)) (l : Lab) (t : Int) (x : D) : kg1 (tblN nkKy PyData.int F) (.d (.tuple [encB l, .int t])) (.d x) = .ok (.d (((lkp F (l, t)).map PyData.int).getD x)) := by
  unfold kg1
  rw [kdKey_ky]
  simp only [valD_tbl nkKy_inj]
theorem kgS_ky (F : List (Ky × Int)) (l : Lab) (t v : Int) (h : lkp F (l, t) = some v) {r : SV} (hr : r = .kd (tblN nkKy PyData.int F) ∨ r = .sk (tblN nkKy PyData.int F)) : kgS r (.d (.tuple [encB l, .int t])) = .ok (.d (.int v)) := by
  unfold kgS
  rcases hr with rfl | rfl <;> simp [valD_tbl nkKy_inj, h]
theorem kinS_ky (neg : Bool) (F : List (Ky × Int)) (l : Lab) (t : Int) {r : SV} (hr : r = .kd (tblN nkKy PyData.int F) ∨ r = .sk (tblN nkKy PyData.int F)) : kinS neg (.d (.tuple [encB l, .int t])) r = .ok (.d (.bool (if neg then !(lkp F (l, t)).isSome else (lkp F (l, t)).isSome))) := by
  unfold kinS
  rcases hr with rfl | rfl <;> simp [valD_tbl nkKy_inj]
theorem alike_ky (a b : Ky) : PySem.W.alike (encKy a) (encKy b) = true := by
  show PySem.W.alikeAll [encB a.1, .int a.2] [encB b.1, .int b.2] = true
  rw [PySem.W.alikeAll, PySem.W.alikeAll, PySem.W.alikeAll]
  show (PySem.W.alike (encB a.1) (encB b.1) && (true && true)) = true
  rw [alike_lab]; rfl
theorem alike_s (a b : Smp) : PySem.W.alike (encS a) (encS b) = true := by
  show PySem.W.alikeAll [encB a.1.1, .int a.1.2, .int a.2] [encB b.1.1, .int b.1.2, .int b.2] = true
  rw [PySem.W.alikeAll, PySem.W.alikeAll, PySem.W.alikeAll, PySem.W.alikeAll]
  show (PySem.W.alike (encB a.1.1) (encB b.1.1) && (true && (true && true))) = true
  rw [alike_lab]; rfl
theorem plain_s (a : Smp) : PyData.plain (encS a) = true := by
  show (PyData.plain (encB a.1.1) && (true && (true && true))) = true
  rw [plain_lab]; rfl
theorem depth_s (a : Smp) : PyData.depth (encS a) ≤ 3 := by
  show max (PyData.depth (encB a.1.1)) (max 0 (max 0 0)) + 1 ≤ 3
  have := depth_lab a.1.1
  omega
theorem depth_ky (a : Ky) : PyData.depth (encKy a) ≤ 3 := by
  show max (PyData.depth (encB a.1)) (max 0 0) + 1 ≤ 3
  have := depth_lab a.1
  omega
theorem eqv_s (a b : Smp) : PyData.eqv (encS a) (encS b) = decide (a = b) := by
  show (PyData.eqv (encB a.1.1) (encB b.1.1) && (PyData.eqv (.int a.1.2) (.int b.1.2) && (PyData.eqv (.int a.2) (.int b.2) && true))) = _
  rw [eqv_lab, eqv_int, eqv_int]
  simp [Prod.ext_iff, Bool.beq_eq_decide_eq, and_assoc]
theorem eqv_ky (a b : Ky) : PyData.eqv (encKy a) (encKy b) = decide (a = b) := by
  show (PyData.eqv (encB a.1) (encB b.1) && (PyData.eqv (.int a.2) (.int b.2) && true)) = _
  rw [eqv_lab, eqv_int]
  simp [Prod.ext_iff, Bool.beq_eq_decide_eq]
def leSm (a b : Smp) : Bool := PySem.W.dataLe false id (encS a) (encS b)
def ltK (a b : Ky) : Bool := PySem.W.dataLt (encKy a) (encKy b)
/-- samples in order with different keys have their keys in strict order -/
theorem le_ltK {a b : Smp} (h : leSm a b = true) (ne : a.1 ≠ b.1) : ltK a.1 b.1 = true := by
  have e : leSm a b = !PySem.W.dataLt (encS b) (encS a) := rfl
  rw [e] at h
  have h' : PySem.W.dataLt (encS b) (encS a) = false := by simpa using h
  unfold encS at h'
  rw [dlt_cons (alike_lab b.1.1 a.1.1)] at h'
  unfold ltK encKy
  rw [dlt_cons (alike_lab a.1.1 b.1.1)]
  by_cases c : a.1.1 = b.1.1
  · have c' : b.1.1 = a.1.1 := c.symm
    rw [eqv_lab, decide_eq_true c', if_pos rfl, dlt_cons (by rfl)] at h'
    rw [eqv_lab, decide_eq_true c, if_pos rfl, dlt_cons (by rfl)]
    have c2 : a.1.2 ≠ b.1.2 := fun z => ne (Prod.ext c z)
    have c3 : b.1.2 ≠ a.1.2 := fun z => c2 z.symm
    rw [eqv_int] at h' ⊢
    have b1 : (b.1.2 == a.1.2) = false := beq_eq_false_iff_ne.mpr c3
    have b2 : (a.1.2 == b.1.2) = false := beq_eq_false_iff_ne.mpr c2
    rw [b1, if_neg (by simp), PySem.W.dataLt_int] at h'
    rw [b2, if_neg (by simp), PySem.W.dataLt_int]
    have := of_decide_eq_false h'
    exact decide_eq_true (by omega)
  · have c' : ¬ b.1.1 = a.1.1 := fun z => c z.symm
    rw [eqv_lab, decide_eq_false c', if_neg (by simp)] at h'
    rw [eqv_lab, decide_eq_false c, if_neg (by simp)]
    exact dlt_tri (alike_lab _ _) (by rw [eqv_lab]; exact decide_eq_false c') h'
def sortSm (V : List Smp) : List Smp := V.mergeSort leSm
theorem sortSm_ok (F : List Smp) (h : F.length < 1000000) {s : SV} (hs : s = .ol (F.map encS) ∨ s = .d (.list (F.map encS))) : Pl.sortedS [s] = .ok (.ol ((sortSm F).map encS)) := by
  obtain ⟨qs, a, _, c⟩ := sorted_enc encS alike_s (fun _ => rfl) (fun l => by have := depth_s l; omega) F h
  subst c
  rcases hs with rfl | rfl
  · exact a
  · exact a
theorem sortSm_perm (V : List Smp) : (sortSm V).Perm V := List.mergeSort_perm V _
theorem sortSm_pw (V : List Smp) : (sortSm V).Pairwise fun a b => leSm a b = true :=
  List.pairwise_mergeSort (fun a b c h1 h2 => dle_trans id (encS a) (encS b) (encS c) h1 h2) (fun a b => dle_total id (encS a) (encS b)) V
/-- a view: ascending, each labels and time once -/
structure ViewOk (V : List Smp) : Prop where
  pw : V.Pairwise fun a b => leSm a b = true
  nd : (V.map (·.1)).Nodup
theorem view_sort {V : List Smp} (h : (V.map (·.1)).Nodup) : ViewOk (sortSm V) := ⟨sortSm_pw V, ((sortSm_perm V).map _).nodup_iff.mpr h⟩
theorem lkp_iff {α β : Type} [DecidableEq α] {F : List (α × β)} (nd : (F.map (·.1)).Nodup) (a : α) (b : β) : lkp F a = some b ↔ (a, b) ∈ F :=
  ⟨lkp_mem, fun h => lkp_at nd h⟩
theorem lkp_perm {α β : Type} [DecidableEq α] {F G : List (α × β)} (nd : (F.map (·.1)).Nodup) (p : F.Perm G) (a : α) : lkp F a = lkp G a := by
  have nd2 : (G.map (·.1)).Nodup := (p.map _).nodup_iff.mp nd
  cases e : lkp G a with
  | some b => exact (lkp_iff nd a b).mpr (p.mem_iff.mpr ((lkp_iff nd2 a b).mp e))
  | none =>
    cases e2 : lkp F a with
    | none => rfl
    | some b =>
      have := (lkp_iff nd2 a b).mpr (p.mem_iff.mp ((lkp_iff nd a b).mp e2))
      rw [e] at this; cases this
def newestI (V : List Smp) : Int := V.foldl (fun m s => imax m s.1.2) 0
theorem newest_go {V W : List Smp} (p : V.Perm W) : ∀ m : Int, V.foldl (fun m s => imax m s.1.2) m = W.foldl (fun m s => imax m s.1.2) m := by
  induction p with
  | nil => intro m; rfl
  | cons x _ ih => intro m; exact ih _
  | swap x y l =>
    intro m
    show List.foldl _ (imax (imax m y.1.2) x.1.2) l = List.foldl _ (imax (imax m x.1.2) y.1.2) l
    congr 1
    unfold imax
    split <;> split <;> (try split) <;> (try split) <;> omega
  | trans _ _ ih1 ih2 => intro m; rw [ih1, ih2]
theorem newest_perm {V W : List Smp} (p : V.Perm W) : newestI V = newestI W := newest_go p 0
theorem newest_snoc (V : List Smp) (s : Smp) : newestI (V ++ [s]) = imax (newestI V) s.1.2 := by unfold newestI; rw [List.foldl_append]; rfl
def encOI : Option Int → D
  | none => .none
  | some v => .int v
theorem encOI_get (o : Option Int) : (o.map PyData.int).getD .none = encOI o := by cases o <;> rfl
end Pl
/-! PmB: dicts by texts: put, sorted keys; labels as tables. -/
namespace Pl
open PySem PySem.Spec PyProof.Rows L2
theorem valF_lkp {α : Type} (F : List (Str × α)) (p : Str) : valF F p = lkp F p := rfl
theorem putD_enc {α : Type} (g : α → D) (F : List (Str × α)) (p : Str) (x : α) : putD (encK g F) (.inr p) (g x) = encK g (putF F p x) := by
  unfold putD putF
  rw [valD_any, valD_enc, valF_lkp, Option.isSome_map]
  split
  · unfold encK
    rw [List.map_map, List.map_map]
    refine List.map_congr_left fun q _ => ?_
    by_cases c : q.1 = p
    · simp [c]
    · have c' : ¬ (Sum.inr q.1 : Key) = .inr p := fun z => c (by injection z)
      simp [c, c']
  · simp [encK]
def sortStr (ss : List Str) : List Str := ss.mergeSort fun a b => PySem.W.dataLe false id (.str a) (.str b)
theorem noLs_strs : ∀ ss : List Str, noLs (ss.map PyData.str) = true
  | [] => by simp [noLs]
  | s :: ss => by
    have := noLs_strs ss
    simp only [List.map_cons, noLs, noL, this, Bool.and_self]
theorem strs_ok (ss : List Str) : noLs (ss.map PyData.str) = true ∧ allAlike (ss.map PyData.str) = true ∧ sortable (ss.map PyData.str) = true ∧ ((ss.map PyData.str).all fun d => decide (d.depth ≤ 60)) = true := by
  refine ⟨noLs_strs ss, ?_, ?_, ?_⟩
  · unfold allAlike
    rw [List.all_eq_true]
    intro a h1
    rw [List.all_eq_true]
    intro b h2
    obtain ⟨p, _, rfl⟩ := List.mem_map.mp h1
    obtain ⟨q, _, rfl⟩ := List.mem_map.mp h2
    rfl
  · unfold sortable
    rw [Bool.or_eq_true]
    right
    rw [List.all_eq_true]
    intro a h1
    obtain ⟨p, _, rfl⟩ := List.mem_map.mp h1
    rfl
  · rw [List.all_eq_true]
    intro a h1
    obtain ⟨p, _, rfl⟩ := List.mem_map.mp h1
    rfl
theorem keys_enc {α : Type} (g : α → D) (F : List (Str × α)) : (encK g F).map (fun kv => keyD kv.1) = (F.map (·.1)).map PyData.str := by
  unfold encK
  rw [List.map_map, List.map_map]; rfl
theorem sortKS_enc {α : Type} (g : α → D) (F : List (Str × α)) {s : SV} (hs : s = .od (encK g F) ∨ s = .sd (encK g F)) : sortKS [s] = .ok (.ol ((sortStr (F.map (·.1))).map PyData.str)) := by
  have h := strs_ok (F.map (·.1))
  have e : sortD ((F.map (·.1)).map PyData.str) = (sortStr (F.map (·.1))).map PyData.str := (List.map_mergeSort (f := PyData.str) (s := PySem.W.dataLe false id) (fun a _ b _ => rfl)).symm
  have k : keysV s = some ((F.map (·.1)).map PyData.str) := by rcases hs with rfl | rfl <;> (show some _ = _; rw [keys_enc])
  show (match keysV s with
    | some ds => if noLs ds = true ∧ allAlike ds = true ∧ sortable ds = true ∧ (ds.all fun d => decide (d.depth ≤ 60)) = true then R.ok (SV.ol (sortD ds)) else .bad
    | none => .bad) = _
  rw [k]
  simp only
  rw [if_pos h, e]
theorem listKS_enc {α : Type} (g : α → D) (F : List (Str × α)) {s : SV} (hs : s = .od (encK g F) ∨ s = .sd (encK g F)) : listKS [s] = .ok (.ol ((F.map (·.1)).map PyData.str)) := by
  have k : keysV s = some ((F.map (·.1)).map PyData.str) := by rcases hs with rfl | rfl <;> (show some _ = _; rw [keys_enc])
  show (match keysV s with
    | some ds => R.ok (SV.ol ds)
    | none => .bad) = _
  rw [k]
theorem sortStr_perm (ss : List Str) : (sortStr ss).Perm ss := List.mergeSort_perm ss _
theorem sortStr_asc {ss : List Str} (nd : ss.Nodup) : (sortStr ss).Pairwise ltS' := by
  have pw : (sortStr ss).Pairwise fun a b => PySem.W.dataLe false id (.str a) (.str b) = true := List.pairwise_mergeSort (fun a b c h1 h2 => dle_trans id (.str a) (.str b) (.str c) h1 h2) (fun a b => dle_total id (.str a) (.str b)) ss
  have nd2 : (sortStr ss).Nodup := (sortStr_perm ss).nodup_iff.mpr nd
  refine (pw.and nd2).imp fun h => ?_
  obtain ⟨h1, h2⟩ := h
  rename_i a b
  have e : PySem.W.dataLe false id (.str a) (.str b) = !PySem.W.dataLt (.str b) (.str a) := rfl
  rw [e, PySem.W.dataLt_str] at h1
  have hn : ¬ (b.cps.toList < a.cps.toList) := fun z => by rw [decide_eq_true z] at h1; cases h1
  exact Std.lt_of_le_of_ne (List.not_lt.mp hn) (str_ne h2)
/-! ### labels as tables -/
theorem valL_lkp (l : Lab) (n : Str) : valL l n = (lkp l n).getD "" := by
  unfold valL lkp
  cases l.find? fun p => decide (p.1 = n) <;> rfl
theorem Asc.nodup {l : Lab} (h : Asc l) : (l.map (·.1)).Nodup := by
  rw [List.nodup_iff_pairwise_ne, List.pairwise_map]
  exact h.imp fun h => ltS'_ne h
theorem valL_perm {l m : Lab} (nd : (l.map (·.1)).Nodup) (p : l.Perm m) (n : Str) : valL l n = valL m n := by rw [valL_lkp, valL_lkp, lkp_perm nd p]
theorem asc_val_ext {l m : Lab} (hl : Asc l) (hm : Asc m) (vl : ∀ p ∈ l, p.2 ≠ "") (vm : ∀ p ∈ m, p.2 ≠ "") (h : ∀ n, valL l n = valL m n) : l = m := by
  have := (asc_part hl hm vl vm fun _ => true).mpr fun n _ => h n
  rwa [List.filter_eq_self.mpr (fun _ _ => rfl), List.filter_eq_self.mpr (fun _ _ => rfl)] at this
theorem lkp_filter_no {β : Type} (l : List (Str × β)) (S : Str → Bool) (n : Str) (h : S n = false) : lkp (l.filter fun p => S p.1) n = none := by
  cases e : lkp (l.filter fun p => S p.1) n with
  | none => rfl
  | some b =>
    have := (List.mem_filter.mp (lkp_mem e)).2
    simp only at this
    rw [h] at this; cases this
theorem val_filter_no (l : Lab) (S : Str → Bool) (n : Str) (h : S n = false) : valL (l.filter fun p => S p.1) n = "" := by rw [valL_lkp, lkp_filter_no l S n h]; rfl
end Pl
namespace Pl
open PySem PySem.Spec PyProof.Rows L2
section
variable {ρ : En} {i n : Nat} {f : Nat → Bool} {g : En → R (List D)}
@[simp] theorem raiseA_ap : raiseA n g ρ = (g ρ >>= fun ds => if ds.length = 1 then .ex n ds else .bad) := nrfl rfl
@[simp] theorem excF_ap : excF i ρ = (match ρ[i]? with
  | some (some (.exn _ [x])) => .ok (.d x)
  | _ => .bad) := nrfl rfl
@[simp] theorem isY_ap : isY i f ρ = (match ρ[i]? with
  | some (some (.exn n [_])) => .ok (.d (.bool (f n)))
  | _ => .bad) := nrfl rfl
end
/-- one sign in a text -/
theorem inS_chr (neg : Bool) (n : Nat) (y : Str) : inS neg (.d (.str ⟨#[n]⟩)) (.d (.str y)) = .ok (.d (.bool (if neg then !decide (n ∈ y.cps.toList) else decide (n ∈ y.cps.toList)))) := by
  show R.ok (SV.d (.bool (if neg then !(!(Builtin.Str.occurrences y ⟨#[n]⟩ 0 y.length 1).isEmpty) else !(Builtin.Str.occurrences y ⟨#[n]⟩ 0 y.length 1).isEmpty))) = _
  rw [PySem.StrLaws.found_one]
theorem lenS_str (z : Str) (h : z.length ≤ 1000) : lenS [.d (.str z)] = .ok (.d (.int z.length)) := by
  have := line16
  show (if z.length ≤ sizeLine then R.ok (SV.d (.int z.length)) else .bad) = _
  rw [if_pos (by omega)]
theorem ixS_first (z : Str) (n : Nat) (r : List Nat) (e : z.cps.toList = n :: r) (h : z.length ≤ 1000) : ixS (.d (.str z)) (.d (.int 0)) = .ok (.d (.str ⟨#[n]⟩)) := by
  have := line16
  show (if z.length ≤ sizeLine then (match atI z.cps.toList 0 with | some c => R.ok (SV.d (.str ⟨#[c]⟩)) | none => .bad) else .bad) = _
  have a : atI (n :: r) (0 : Int) = some n := atI_of (by omega) (by rw [List.length_cons]; omega)
  rw [if_pos (by omega), e, a]
/-- two ascending rows of the same pairs are one -/
theorem Asc.perm_eq {l m : Lab} (hl : Asc l) (hm : Asc m) (p : l.Perm m) (vl : ∀ q ∈ l, q.2 ≠ "") : l = m :=
  asc_val_ext hl hm vl (fun q hq => vl q (p.mem_iff.mpr hq)) fun n => valL_perm hl.nodup p n
end Pl
namespace Pl
open PySem PySem.Spec PyProof.Rows L2
theorem lc2F_flat {α : Type} (g : α → D) (h : α → List D) {k : D → En → R En} {t : En → R Bool} {inn : En → R (List D)} {ρ0 : En} : ∀ us : List α, (∀ a ∈ us, ∃ ρ1, k (g a) ρ0 = .ok ρ1 ∧ t ρ1 = .ok true ∧ inn ρ1 = .ok (h a)) → lc2F k t inn ρ0 (us.map g) = .ok (us.flatMap h)
  | [], _ => rfl
  | a :: us, H => by
    obtain ⟨ρ1, h1, h2, h3⟩ := H a List.mem_cons_self
    have ih := lc2F_flat g h us fun b hb => H b (List.mem_cons_of_mem _ hb)
    rw [List.map_cons, lc2F, h1]
    simp only [h2, ok_bind, if_true, h3, ih, List.flatMap_cons]
theorem lcE2_flat {α : Type} (g : α → D) (h : α → List D) {fi : En → R (List D)} {k : D → En → R En} {t : En → R Bool} {inn : En → R (List D)} {vs : List Nat} {ρ : En} (us : List α) (hp : noPin ρ = true) (hf : fi ρ = .ok (us.map g)) (hl : (us.flatMap h).length < sizeLine)
    (H : ∀ a ∈ us, ∃ ρ1, k (g a) (wipeE ρ vs) = .ok ρ1 ∧ t ρ1 = .ok true ∧ inn ρ1 = .ok (h a)) : lcE2 fi k t inn vs ρ = .ok (.ol (us.flatMap h)) := by
  unfold lcE2
  rw [if_pos hp, hf, ok_bind, lc2F_flat g h us H]
  exact if_pos hl
theorem lcE_mapα {α : Type} (g0 : α → D) (p : α → Bool) (g : α → D) {fi : En → R (List D)} {k : D → En → R En} {t : En → R Bool} {e : En → R SV} {vs : List Nat} {ρ : En} (us : List α) (hf : fi ρ = .ok (us.map g0)) (hl : us.length < sizeLine)
    (h : ∀ x ∈ us, ∃ ρ1, k (g0 x) (wipeE ρ vs) = .ok ρ1 ∧ t ρ1 = .ok (p x) ∧ (p x = true → ∃ r, e ρ1 = .ok r ∧ datS r = .ok (g x))) : lcE fi k t e vs ρ = .ok (.ol ((us.filter p).map g)) := by
  rw [lcE_ap, hf, ok_bind, if_pos (by rw [List.length_map]; exact hl), lcF_mapα g0 p g us h]; rfl
theorem lcE_allα {α : Type} (g0 : α → D) (g : α → D) {fi : En → R (List D)} {k : D → En → R En} {e : En → R SV} {vs : List Nat} {ρ : En} (us : List α) (hf : fi ρ = .ok (us.map g0)) (hl : us.length < sizeLine)
    (h : ∀ x ∈ us, ∃ ρ1, k (g0 x) (wipeE ρ vs) = .ok ρ1 ∧ ∃ r, e ρ1 = .ok r ∧ datS r = .ok (g x)) : lcE fi k yesT e vs ρ = .ok (.ol (us.map g)) := by
  have q := lcE_mapα g0 (fun _ => true) g (t := yesT) us hf hl fun x hx => let ⟨ρ1, a, b⟩ := h x hx; ⟨ρ1, a, rfl, fun _ => b⟩
  rw [List.filter_eq_self.mpr fun _ _ => rfl] at q
  exact q
theorem lcE_ex {α : Type} (g : α → D) (Q : α → Prop) {fi : En → R (List D)} {k : D → En → R En} {e : En → R SV} {vs : List Nat} {ρ : En} (xs : List D) (hf : fi ρ = .ok xs) (hl : xs.length < sizeLine)
    (h : ∀ x, x ∈ xs → ∃ ρ1 r y, k x (wipeE ρ vs) = .ok ρ1 ∧ e ρ1 = .ok r ∧ datS r = .ok (g y) ∧ Q y) : ∃ ys : List α, lcE fi k yesT e vs ρ = .ok (.ol (ys.map g)) ∧ ys.length = xs.length ∧ ∀ y ∈ ys, Q y := by
  obtain ⟨ys, a, b, c⟩ := lcF_ex g Q (k := k) (e := e) (ρ0 := wipeE ρ vs) xs h
  exact ⟨ys, by rw [lcE_ap, hf, ok_bind, if_pos hl, a]; rfl, b, c⟩
theorem rngD1_is {fa : En → R SV} {ρ : En} {j : Int} (h : fa ρ = .ok (.d (.int j))) (hj : okR j = true) : rngD1 (conB fa nilB) ρ = .ok (rng 0 j) := by
  simp [h, hj]
theorem rngD2_is {fa fb : En → R SV} {ρ : En} {i j : Int} (h : fa ρ = .ok (.d (.int i))) (h' : fb ρ = .ok (.d (.int j))) (hi : okR i = true) (hj : okR j = true) : rngD2 (conB fa (conB fb nilB)) ρ = .ok (rng i j) := by
  simp [h, h', hi, hj]
theorem seqD_l {fa : En → R SV} {ρ : En} {xs : List D} (h : fa ρ = .ok (.d (.list xs))) : seqD fa ρ = .ok xs := by rw [seqD_ap, h]; rfl
theorem seqD_t {fa : En → R SV} {ρ : En} {xs : List D} (h : fa ρ = .ok (.d (.tuple xs))) : seqD fa ρ = .ok xs := by rw [seqD_ap, h]; rfl
theorem seqD_o {fa : En → R SV} {ρ : En} {xs : List D} (h : fa ρ = .ok (.ol xs)) : seqD fa ρ = .ok xs := by rw [seqD_ap, h]; rfl
theorem addS_oo (xs ys : List D) (h : xs.length + ys.length ≤ 16000000) : addS (.ol xs) (.ol ys) = .ok (.ol (xs ++ ys)) := by
  have hz := line16
  show (if xs.length + ys.length ≤ sizeLine then Pl.R.ok (SV.ol (xs ++ ys)) else Pl.R.bad) = _
  rw [if_pos (by omega)]
theorem addS_dd (xs ys : List D) (h : xs.length + ys.length ≤ 16000000) : addS (.d (.list xs)) (.d (.list ys)) = .ok (.ol (xs ++ ys)) := by
  have hz := line16
  show (if xs.length + ys.length ≤ sizeLine then Pl.R.ok (SV.ol (xs ++ ys)) else Pl.R.bad) = _
  rw [if_pos (by omega)]
theorem addS_od (xs ys : List D) (h : xs.length + ys.length ≤ 16000000) : addS (.ol xs) (.d (.list ys)) = .ok (.ol (xs ++ ys)) := by
  have hz := line16
  show (if xs.length + ys.length ≤ sizeLine then Pl.R.ok (SV.ol (xs ++ ys)) else Pl.R.bad) = _
  rw [if_pos (by omega)]
theorem addS_do (xs ys : List D) (h : xs.length + ys.length ≤ 16000000) : addS (.d (.list xs)) (.ol ys) = .ok (.ol (xs ++ ys)) := by
  have hz := line16
  show (if xs.length + ys.length ≤ sizeLine then Pl.R.ok (SV.ol (xs ++ ys)) else Pl.R.bad) = _
  rw [if_pos (by omega)]
theorem addS_tt (xs ys : List D) (h : xs.length + ys.length ≤ 16000000) : addS (.d (.tuple xs)) (.d (.tuple ys)) = .ok (.d (.tuple (xs ++ ys))) := by
  have hz := line16
  show (if xs.length + ys.length ≤ sizeLine then Pl.R.ok (SV.d (.tuple (xs ++ ys))) else Pl.R.bad) = _
  rw [if_pos (by omega)]
theorem runB_ex {n m k : Nat} {as : List D} {b : En → R Fl} {ds : List D} (h : b (startE m ds) = .ex k as) (hn : ds.length = n) : runB n m b ds = .ex k as := by
  unfold runB
  rw [if_pos hn, h]; rfl
end Pl
namespace K43
open PySem PySem.Spec PyProof.Rows L2 Pl

/-! ### the text -/
def topS (i : Nat) : Stmt := PySem.Challenge.pw_watchfloor_k43_routes_blockers.main.body.getD i (.Pass ⟨0, 0, 0, 0⟩)
abbrev s_value_of : Stmt := topS 4
theorem sc_value_of : FnScope ["labels", "name", "pair"] ["labels", "name"] (defScope s_value_of) := ⟨rfl, rfl, rfl, by decide +kernel, rfl, by decide +kernel, by decide +kernel⟩
abbrev s_matches : Stmt := topS 5
theorem sc_matches : FnScope ["matcher", "labels", "name", "values", "inside", "found"] ["matcher", "labels"] (defScope s_matches) := ⟨rfl, rfl, rfl, by decide +kernel, rfl, by decide +kernel, by decide +kernel⟩
abbrev s_matches_all : Stmt := topS 6
theorem sc_matches_all : FnScope ["matchers", "labels", "matcher"] ["matchers", "labels"] (defScope s_matches_all) := ⟨rfl, rfl, rfl, by decide +kernel, rfl, by decide +kernel, by decide +kernel⟩
abbrev s_later : Stmt := topS 8
theorem sc_later : FnScope ["routes", "at", "labels", "number"] ["routes", "at", "labels"] (defScope s_later) := ⟨rfl, rfl, rfl, by decide +kernel, rfl, by decide +kernel, by decide +kernel⟩
abbrev s_way : Stmt := topS 9
theorem sc_way : FnScope ["routes", "labels", "rows", "later"] ["routes", "labels"] (defScope s_way) := ⟨rfl, rfl, rfl, by decide +kernel, rfl, by decide +kernel, by decide +kernel⟩
abbrev s_choices : Stmt := topS 12
theorem sc_choices : FnScope ["matchers", "name", "found", "named", "matcher", "worth", "other"] ["matchers", "name"] (defScope s_choices) := ⟨rfl, rfl, rfl, by decide +kernel, rfl, by decide +kernel, by decide +kernel⟩
abbrev s_count : Stmt := topS 13
theorem sc_count : FnScope ["rows", "many", "row"] ["rows"] (defScope s_count) := ⟨rfl, rfl, rfl, by decide +kernel, rfl, by decide +kernel, by decide +kernel⟩
abbrev s_sample_alerts : Stmt := topS 14
theorem sc_sample_alerts : FnScope ["matchers", "names", "matcher", "name", "rows", "found", "row", "pairs", "worth", "pair"] ["matchers"] (defScope s_sample_alerts) := ⟨rfl, rfl, rfl, by decide +kernel, rfl, by decide +kernel, by decide +kernel⟩
abbrev s_matchers_of : Stmt := topS 15
theorem sc_matchers_of : FnScope ["routes", "route", "matcher"] ["routes"] (defScope s_matchers_of) := ⟨rfl, rfl, rfl, by decide +kernel, rfl, by decide +kernel, by decide +kernel⟩
abbrev s_considered : Stmt := topS 16
theorem sc_considered : FnScope ["must", "matchers", "labels"] ["must", "matchers"] (defScope s_considered) := ⟨rfl, rfl, rfl, by decide +kernel, rfl, by decide +kernel, by decide +kernel⟩
abbrev s_lineage : Stmt := topS 17
theorem sc_lineage : FnScope ["routes", "number", "rows"] ["routes", "number"] (defScope s_lineage) := ⟨rfl, rfl, rfl, by decide +kernel, rfl, by decide +kernel, by decide +kernel⟩
abbrev s_rivals : Stmt := topS 18
theorem sc_rivals : FnScope ["routes", "number", "line", "found", "other", "mine"] ["routes", "number"] (defScope s_rivals) := ⟨rfl, rfl, rfl, by decide +kernel, rfl, by decide +kernel, by decide +kernel⟩
abbrev s_gets_past : Stmt := topS 19
theorem sc_gets_past : FnScope ["routes", "line", "rivals", "labels", "number"] ["routes", "line", "rivals", "labels"] (defScope s_gets_past) := ⟨rfl, rfl, rfl, by decide +kernel, rfl, by decide +kernel, by decide +kernel⟩
abbrev s_blockers : Stmt := topS 20
theorem sc_blockers : FnScope ["routes", "alerts", "number", "line", "kept", "rival", "fewer", "other", "labels"] ["routes", "alerts", "number"] (defScope s_blockers) := ⟨rfl, rfl, rfl, by decide +kernel, rfl, by decide +kernel, by decide +kernel⟩
abbrev s_survey : Stmt := topS 21
theorem sc_survey : FnScope ["routes", "must", "alerts", "labels", "ways", "out", "number", "ending", "through", "row", "blockers"] ["routes", "must"] (defScope s_survey) := ⟨rfl, rfl, rfl, by decide +kernel, rfl, by decide +kernel, by decide +kernel⟩
abbrev s_law_cell : Stmt := topS 23
theorem sc_law_cell : FnScope ["_law_script", "_law_k"] ["_law_script", "_law_k"] (defScope s_law_cell) := ⟨rfl, rfl, rfl, by decide +kernel, rfl, by decide +kernel, by decide +kernel⟩
abbrev s_law_draws : Stmt := topS 24
theorem sc_law_draws : FnScope ["_law_cell_here", "_law_many", "_law_rows", "_law_rest", "_law_k", "_law_state"] ["_law_cell_here", "_law_many"] (defScope s_law_draws) := ⟨rfl, rfl, rfl, by decide +kernel, rfl, by decide +kernel, by decide +kernel⟩
abbrev s_law_same : Stmt := topS 25
theorem sc_law_same : FnScope ["_law_told", "_law_due", "_law_k"] ["_law_told", "_law_due"] (defScope s_law_same) := ⟨rfl, rfl, rfl, by decide +kernel, rfl, by decide +kernel, by decide +kernel⟩
abbrev s_law_words : Stmt := topS 26
theorem sc_law_words : FnScope ["_law_cell_here", "_law_many", "_law_letters", "_law_place", "_law_k"] ["_law_cell_here", "_law_many"] (defScope s_law_words) := ⟨rfl, rfl, rfl, by decide +kernel, rfl, by decide +kernel, by decide +kernel⟩
abbrev s_law_worths : Stmt := topS 27
theorem sc_law_worths : FnScope ["_law_cell_here", "_law_many", "_law_letters", "_law_place", "_law_k"] ["_law_cell_here", "_law_many"] (defScope s_law_worths) := ⟨rfl, rfl, rfl, by decide +kernel, rfl, by decide +kernel, by decide +kernel⟩
abbrev s_law_labels : Stmt := topS 28
theorem sc_law_labels : FnScope ["_law_draws_here", "_law_names", "_law_worths_here", "_law_pairs", "_law_used", "_law_k", "_law_name"] ["_law_draws_here", "_law_names", "_law_worths_here"] (defScope s_law_labels) := ⟨rfl, rfl, rfl, by decide +kernel, rfl, by decide +kernel, by decide +kernel⟩
abbrev s_law_matcher : Stmt := topS 29
theorem sc_law_matcher : FnScope ["_law_first", "_law_second", "_law_names", "_law_worths_here", "_law_many", "_law_values"] ["_law_first", "_law_second", "_law_names", "_law_worths_here"] (defScope s_law_matcher) := ⟨rfl, rfl, rfl, by decide +kernel, rfl, by decide +kernel, by decide +kernel⟩
abbrev s_law_value : Stmt := topS 30
theorem sc_law_value : FnScope ["_law_labels_here", "_law_name", "_law_pair"] ["_law_labels_here", "_law_name"] (defScope s_law_value) := ⟨rfl, rfl, rfl, by decide +kernel, rfl, by decide +kernel, by decide +kernel⟩
abbrev s_law_matches : Stmt := topS 31
theorem sc_law_matches : FnScope ["_law_matchers", "_law_labels_here", "_law_name", "_law_values", "_law_inside"] ["_law_matchers", "_law_labels_here"] (defScope s_law_matches) := ⟨rfl, rfl, rfl, by decide +kernel, rfl, by decide +kernel, by decide +kernel⟩
abbrev s_law_way : Stmt := topS 32
theorem sc_law_way : FnScope ["_law_tree_here", "_law_labels_here", "_law_way_here", "_law_turn", "_law_found", "_law_k"] ["_law_tree_here", "_law_labels_here"] (defScope s_law_way) := ⟨rfl, rfl, rfl, by decide +kernel, rfl, by decide +kernel, by decide +kernel⟩
abbrev s_law_route : Stmt := topS 33
theorem sc_law_route : FnScope ["_law_cell_here", "_law_place", "_law_names", "_law_worths_here", "_law_ladders", "_law_shutters", "_law_draws_here", "_law_parent", "_law_matchers", "_law_k", "_law_group", "_law_interval", "_law_again", "_law_mutes", "_law_policy"] ["_law_cell_here", "_law_place", "_law_names", "_law_worths_here", "_law_ladders", "_law_shutters"] (defScope s_law_route) := ⟨rfl, rfl, rfl, by decide +kernel, rfl, by decide +kernel, by decide +kernel⟩
abbrev s_law_tree : Stmt := topS 34
theorem sc_law_tree : FnScope ["_law_script", "_law_first", "_law_last", "_law_names", "_law_worths_here", "_law_tree_here", "_law_k"] ["_law_script", "_law_first", "_law_last", "_law_names", "_law_worths_here"] (defScope s_law_tree) := ⟨rfl, rfl, rfl, by decide +kernel, rfl, by decide +kernel, by decide +kernel⟩
abbrev s_law_times : Stmt := topS 36
theorem sc_law_times : FnScope ["_law_rows", "_law_name", "_law_choices", "_law_out", "_law_pairs", "_law_worth"] ["_law_rows", "_law_name", "_law_choices"] (defScope s_law_times) := ⟨rfl, rfl, rfl, by decide +kernel, rfl, by decide +kernel, by decide +kernel⟩
abbrev s_law_samples : Stmt := topS 35
theorem sc_law_samples : FnScope ["_law_matchers", "_law_names", "_law_matcher_here", "_law_rows", "_law_name", "_law_named", "_law_choices", "_law_many", "_law_turn", "_law_pairs", "_law_k", "_law_worth", "_law_pair"] ["_law_matchers"] (defScope s_law_samples) := ⟨rfl, rfl, rfl, by decide +kernel, rfl, by decide +kernel, by decide +kernel⟩
abbrev s_law_case : Stmt := topS 37
theorem sc_law_case : FnScope ["_law_script", "_law_names", "_law_worths_here", "_law_tree_here", "_law_k", "_law_draws_here", "_law_must", "_law_rows", "_law_parent", "_law_matchers", "_law_settings", "_law_found", "_law_labels_here"] ["_law_script"] (defScope s_law_case) := ⟨rfl, rfl, rfl, by decide +kernel, rfl, by decide +kernel, by decide +kernel⟩
abbrev s_law_line : Stmt := topS 38
theorem sc_law_line : FnScope ["_law_tree_here", "_law_k", "_law_line_here", "_law_turn"] ["_law_tree_here", "_law_k"] (defScope s_law_line) := ⟨rfl, rfl, rfl, by decide +kernel, rfl, by decide +kernel, by decide +kernel⟩
abbrev s_law_past : Stmt := topS 39
theorem sc_law_past : FnScope ["_law_tree_here", "_law_line_here", "_law_rivals", "_law_found", "_law_rows", "_law_labels_here", "_law_j"] ["_law_tree_here", "_law_line_here", "_law_rivals", "_law_found"] (defScope s_law_past) := ⟨rfl, rfl, rfl, by decide +kernel, rfl, by decide +kernel, by decide +kernel⟩
abbrev s_law : Stmt := topS 40
theorem sc_law : FnScope ["_law_script", "_law_tree_here", "_law_must", "_law_found", "_law_rows", "_law_k", "_law_line_here", "_law_j", "_law_rivals", "_law_blockers", "_law_kept", "_law_fewer", "_law_i"] ["_law_script"] (defScope s_law) := ⟨rfl, rfl, rfl, by decide +kernel, rfl, by decide +kernel, by decide +kernel⟩
/-! ### the plain functions -/
def value_of_w1 : En → R Fl :=
    (kill [2] (ifS (asT (bin (eqS false) (bin ixS (peek 2) (kon (.int 0))) (peek 1))) (retS (bin ixS (peek 2) (kon (.int 1)))) skip))
def value_of_b : En → R Fl :=
    (seqS (forS (seqD (getV 0)) (setD 2) value_of_w1)
    (retS (kon (.str ""))))
def value_of_f : List D → R SV := runB 2 3 value_of_b
def matches_b : En → R Fl :=
    (seqS (asgG (tupG 3 (gsC (setD 2) (gsC (setD 3) (gsC (setD 4) gsN)))) (getV 0))
    (seqS (asgS 5 (bin (inS false) (callF 2 value_of_f (conA (getV 1) (conA (getV 2) nilA))) (peek 3)))
    (retS (bin (eqS false) (peek 5) (peek 4)))))
def matches_f : List D → R SV := runB 2 6 matches_b
def matches_all_w1 : En → R Fl :=
    (kill [2] (ifS (notT (tru (callF 2 matches_f (conA (getV 2) (conA (getV 1) nilA))))) (retS (kon (.bool false))) skip))
def matches_all_b : En → R Fl :=
    (seqS (forS (seqD (getV 0)) (setD 2) matches_all_w1)
    (retS (kon (.bool true))))
def matches_all_f : List D → R SV := runB 2 3 matches_all_b
def later_w1 : En → R Fl :=
    (kill [3] (ifS (andT (asT (bin (eqS false) (bin ixS (bin ixS (peek 0) (peek 3)) (kon (.int 0))) (peek 1))) (tru (callF 2 matches_all_f (conA (bin ixS (bin ixS (peek 0) (peek 3)) (kon (.int 1))) (conA (getV 2) nilA))))) (retV 3) skip))
def later_b : En → R Fl :=
    (seqS (forS (rngD2 (conB (bin addS (peek 1) (kon (.int 1))) (conB (callB lenS (conB (peek 0) nilB)) nilB))) (setD 3) later_w1)
    (retS (kon .none)))
def later_f : List D → R SV := runB 3 4 later_b
def way_w1 : En → R Fl :=
    (seqS (frzS [3] (appS 2 (getV 3)))
    (frzS [3] (asgS 3 (callF 3 later_f (conA (getV 0) (conA (getV 3) (conA (getV 1) nilA)))))))
def way_t1 : En → R Bool :=
    (asT (bin (isnS true) (peek 3) (kon .none)))
def way_b : En → R Fl :=
    (seqS (asgS 2 (dispL (conA (kon (.int 0)) nilA)))
    (seqS (asgS 3 (callF 3 later_f (conA (getV 0) (conA (kon (.int 0)) (conA (getV 1) nilA)))))
    (seqS (whileS fuel way_t1 way_w1)
    (retV 2))))
def way_f : List D → R SV := runB 2 4 way_b
def choices_w1 : En → R Fl :=
    (kill [5] (seqS (putS 3 (peek 5) (kon (.bool true)))
    (ifS (asT (bin (inS true) (peek 5) (peek 2))) (appS 2 (getV 5)) skip)))
def choices_w2 : En → R Fl :=
    (kill [4, 5] (ifS (asT (bin (eqS false) (bin ixS (peek 4) (kon (.int 0))) (peek 1))) (forS (seqD (bin ixS (peek 4) (kon (.int 1)))) (setD 5) choices_w1) skip))
def choices_w3 : En → R Fl :=
    (asgS 6 (bin addS (peek 6) (kon (.str "x"))))
def choices_t1 : En → R Bool :=
    (asT (inDS false 3 (peek 6)))
def choices_b : En → R Fl :=
    (seqS (asgS 2 (dispL (conA (kon (.str "")) nilA)))
    (seqS (asgS 3 dnewS)
    (seqS (forS (seqD (getV 0)) (setD 4) choices_w2)
    (seqS (ifS (asT (inDS false 3 (kon (.str "")))) (seqS (asgS 6 (kon (.str "x")))
    (seqS (whileS fuel choices_t1 choices_w3)
    (frzS [6] (appS 2 (getV 6))))) skip)
    (retV 2)))))
def choices_f : List D → R SV := runB 2 7 choices_b
def count_w1 : En → R Fl :=
    (kill [2] (seqS (asgS 1 (bin mulA (peek 1) (callB lenS (conB (peek 2) nilB))))
    (ifS (asT (bin gtS (peek 1) (kon (.int 300)))) (raiseS 0) skip)))
def count_b : En → R Fl :=
    (seqS (asgS 1 (kon (.int 1)))
    (forS (seqD (getV 0)) (setD 2) count_w1))
def count_f : List D → R SV := runB 1 3 count_b
def sample_alerts_w1 : En → R Fl :=
    (kill [2] (ifS (asT (bin (inS true) (bin ixS (peek 2) (kon (.int 0))) (peek 1))) (appS 1 (bin ixS (peek 2) (kon (.int 0)))) skip))
def sample_alerts_w2 : En → R Fl :=
    (kill [3, 6] (frzS [5] (asgS 5 (lcE2 (seqD (getV 5)) (setD 7) yesT (lcIn (seqD (getV 6)) (setD 8) yesT (bin addS (peek 7) (dispT (conA (dispT (conA (getV 3) (conA (getV 8) nilA))) nilA))) [8]) [7, 8]))))
def sample_alerts_b : En → R Fl :=
    (seqS (asgS 1 (dispL nilA))
    (seqS (forS (seqD (getV 0)) (setD 2) sample_alerts_w1)
    (seqS (frzS [1] (asgS 4 (lcE (seqD (getV 1)) (setD 3) yesT (callF 2 choices_f (conA (getV 0) (conA (getV 3) nilA))) [3])))
    (seqS (frzS [4] (exprS (callF 1 count_f (conA (getV 4) nilA))))
    (seqS (asgS 5 (dispL (conA (dispT nilA) nilA)))
    (seqS (frzS [1, 4] (forS (zipD (conA (getV 1) (conA (getV 4) nilA))) (tupG 2 (gsC (setD 3) (gsC (setD 6) gsN))) sample_alerts_w2))
    (frzS [5] (retS (lcE (seqD (getV 5)) (setD 7) yesT (callB tupS (conB (callB sortedS (conB (lcE (seqD (getV 7)) (setD 9) (asT (bin (eqS true) (bin ixS (peek 9) (kon (.int 1))) (kon (.str "")))) (getV 9) [9]) nilB)) nilB)) [7])))))))))
def sample_alerts_f : List D → R SV := runB 1 10 sample_alerts_b
def matchers_of_b : En → R Fl :=
    (retS (lcE2 (seqD (getV 0)) (setD 1) yesT (lcIn (seqD (bin ixS (peek 1) (kon (.int 1)))) (setD 2) yesT (getV 2) [2]) [1, 2]))
def matchers_of_f : List D → R SV := runB 1 3 matchers_of_b
def considered_b : En → R Fl :=
    (retS (lcE (seqD (callF 1 sample_alerts_f (conA (bin addS (callB listS (conB (peek 0) nilB)) (peek 1)) nilA))) (setD 2) (tru (callF 2 matches_all_f (conA (getV 0) (conA (getV 2) nilA)))) (getV 2) [2]))
def considered_f : List D → R SV := runB 2 3 considered_b
def lineage_w1 : En → R Fl :=
    (seqS (appS 2 (getV 1))
    (asgS 1 (bin ixS (bin ixS (peek 0) (peek 1)) (kon (.int 0)))))
def lineage_t1 : En → R Bool :=
    (asT (bin (eqS true) (peek 1) (kon (.int 0))))
def lineage_b : En → R Fl :=
    (seqS (asgS 2 (dispL nilA))
    (seqS (whileS fuel lineage_t1 lineage_w1)
    (retV 2)))
def lineage_f : List D → R SV := runB 2 3 lineage_b
def rivals_w1 : En → R Fl :=
    (kill [5] (ifS (andT (asT (bin ltS (peek 4) (peek 5))) (asT (bin (eqS false) (bin ixS (bin ixS (peek 0) (peek 4)) (kon (.int 0))) (bin ixS (bin ixS (peek 0) (peek 5)) (kon (.int 0)))))) (seqS (appS 3 (getV 4))
    brkS) skip))
def rivals_w2 : En → R Fl :=
    (kill [4, 5] (frzS [2] (forS (seqD (getV 2)) (setD 5) rivals_w1)))
def rivals_b : En → R Fl :=
    (seqS (asgS 2 (callF 2 lineage_f (conA (getV 0) (conA (getV 1) nilA))))
    (seqS (asgS 3 (dispL nilA))
    (seqS (forS (rngD2 (conB (kon (.int 1)) (conB (callB lenS (conB (peek 0) nilB)) nilB))) (setD 4) rivals_w2)
    (retV 3))))
def rivals_f : List D → R SV := runB 2 6 rivals_b
def gets_past_w1 : En → R Fl :=
    (kill [4] (ifS (notT (tru (callF 2 matches_all_f (conA (bin ixS (bin ixS (peek 0) (peek 4)) (kon (.int 1))) (conA (getV 3) nilA))))) (retS (kon (.bool false))) skip))
def gets_past_w2 : En → R Fl :=
    (kill [4] (ifS (tru (callF 2 matches_all_f (conA (bin ixS (bin ixS (peek 0) (peek 4)) (kon (.int 1))) (conA (getV 3) nilA)))) (retS (kon (.bool false))) skip))
def gets_past_b : En → R Fl :=
    (seqS (forS (seqD (getV 1)) (setD 4) gets_past_w1)
    (seqS (forS (seqD (getV 2)) (setD 4) gets_past_w2)
    (retS (kon (.bool true)))))
def gets_past_f : List D → R SV := runB 4 5 gets_past_b
def blockers_w1 : En → R Fl :=
    (kill [5, 6] (seqS (frzS [4] (asgS 6 (lcE (seqD (getV 4)) (setD 7) (asT (bin (eqS true) (peek 7) (peek 5))) (getV 7) [7])))
    (frzS [3, 6] (ifS (notT (tru (callB anyS (conB (lcE (seqD (getV 1)) (setD 8) yesT (callF 4 gets_past_f (conA (getV 0) (conA (getV 3) (conA (getV 6) (conA (getV 8) nilA))))) [8]) nilB)))) (frzS [6] (asgS 4 (getV 6))) skip))))
def blockers_b : En → R Fl :=
    (seqS (asgS 3 (callF 2 lineage_f (conA (getV 0) (conA (getV 2) nilA))))
    (seqS (asgS 4 (callF 2 rivals_f (conA (getV 0) (conA (getV 2) nilA))))
    (seqS (forS (seqD (callB listS (conB (peek 4) nilB))) (setD 5) blockers_w1)
    (retV 4))))
def blockers_f : List D → R SV := runB 3 9 blockers_b
def survey_w1 : En → R Fl :=
    (kill [3, 9] (seqS (ifS (andT (asT (bin (isnS false) (peek 7) (kon .none))) (asT (bin (eqS false) (bin ixS (peek 9) (una negS (kon (.int 1)))) (peek 6)))) (asgS 7 (getV 3)) skip)
    (ifS (andT (asT (bin (isnS false) (peek 8) (kon .none))) (asT (bin (inS false) (peek 6) (peek 9)))) (asgS 8 (getV 3)) skip)))
def survey_w2 : En → R Fl :=
    (kill [3, 6, 7, 8, 9, 10] (seqS (asgS 7 (kon .none))
    (seqS (asgS 8 (kon .none))
    (seqS (frzS [2, 4] (forS (zipD (conA (getV 2) (conA (getV 4) nilA))) (tupG 2 (gsC (setD 3) (gsC (setD 9) gsN))) survey_w1))
    (seqS (asgS 10 (dispL nilA))
    (seqS (ifS (asT (bin (isnS false) (peek 8) (kon .none))) (frzS [2] (asgS 10 (callF 3 blockers_f (conA (getV 0) (conA (getV 2) (conA (getV 6) nilA)))))) skip)
    (frzS [10] (appS 5 (dispT (conA (getV 7) (conA (getV 8) (conA (getV 10) nilA))))))))))))
def survey_b : En → R Fl :=
    (seqS (asgS 2 (callF 2 considered_f (conA (getV 1) (conA (callF 1 matchers_of_f (conA (getV 0) nilA)) nilA))))
    (seqS (frzS [2] (asgS 4 (lcE (seqD (getV 2)) (setD 3) yesT (callF 2 way_f (conA (getV 0) (conA (getV 3) nilA))) [3])))
    (seqS (asgS 5 (dispL nilA))
    (seqS (forS (rngD1 (conB (callB lenS (conB (peek 0) nilB)) nilB)) (setD 6) survey_w2)
    (retV 5)))))
def survey_f : List D → R SV := runB 2 11 survey_b
def law_cell_b : En → R Fl :=
    (seqS (ifS (asT (bin ltS (peek 1) (callB lenS (conB (peek 0) nilB)))) (retS (callB intS (conB (bin ixS (peek 0) (peek 1)) nilB))) skip)
    (retS (kon (.int 0))))
def law_cell_f : List D → R SV := runB 2 2 law_cell_b
def law_draws_w1 : En → R Fl :=
    (kill [4] (ifS (asT (bin gtS (peek 3) (kon (.int 0)))) (seqS (appS 2 (bin modS (callB intS (conB (peek 3) nilB)) (kon (.int 1000))))
    (asgS 3 (bin fdivS (peek 3) (kon (.int 1000))))) skip))
def law_draws_w2 : En → R Fl :=
    (kill [4] (seqS (asgS 5 (bin modS (callB intS (conB (bin addS (bin addS (bin mulA (peek 5) (kon (.int 48271))) (bin mulA (peek 4) (kon (.int 69621)))) (kon (.int 7))) nilB)) (kon (.int 2147483647))))
    (ifS (asT (bin ltS (callB lenS (conB (peek 2) nilB)) (peek 1))) (appS 2 (bin modS (callB intS (conB (bin modS (callB intS (conB (bin addS (bin mulA (peek 5) (kon (.int 69621))) (kon (.int 5))) nilB)) (kon (.int 2147483629))) nilB)) (kon (.int 1000)))) skip)))
def law_draws_b : En → R Fl :=
    (seqS (asgS 2 (dispL nilA))
    (seqS (asgS 3 (callB intS (conB (peek 0) nilB)))
    (seqS (ifS (asT (bin geS (peek 3) (bin powS (kon (.int 10)) (kon (.int 18))))) (forS (rngD1 (conB (peek 1) nilB)) (setD 4) law_draws_w1) skip)
    (seqS (asgS 5 (bin modS (callB intS (conB (bin addS (bin mulA (callB intS (conB (peek 0) nilB)) (kon (.int 48271))) (kon (.int 11))) nilB)) (kon (.int 2147483647))))
    (seqS (forS (rngD1 (conB (peek 1) nilB)) (setD 4) law_draws_w2)
    (retV 2))))))
def law_draws_f : List D → R SV := runB 2 6 law_draws_b
def law_same_w1 (self : List D → R SV) : En → R Fl :=
    (kill [2] (ifS (notT (tru (callF 2 self (conA (bin ixS (peek 0) (peek 2)) (conA (bin ixS (peek 1) (peek 2)) nilA))))) (retS (kon (.bool false))) skip))
def law_same_b (self : List D → R SV) : En → R Fl :=
    (seqS (ifS (asT (bin (isnS false) (peek 1) (kon .none))) (retS (bin (isnS false) (peek 0) (kon .none))) skip)
    (seqS (ifS (asT (bin (isbS false) (peek 1) (kon (.bool true)))) (retS (bin (isbS false) (peek 0) (kon (.bool true)))) skip)
    (seqS (ifS (asT (bin (isbS false) (peek 1) (kon (.bool false)))) (retS (bin (isbS false) (peek 0) (kon (.bool false)))) skip)
    (seqS (ifS (tru (isi "int" (peek 1))) (retS (andV (isi "int" (peek 0)) (andV (notN (isi "bool" (peek 0))) (bin (eqS false) (peek 0) (peek 1))))) skip)
    (seqS (ifS (tru (isi "str" (peek 1))) (retS (andV (isi "str" (peek 0)) (bin (eqS false) (peek 0) (peek 1)))) skip)
    (seqS (ifS (andT (tru (isi "tuple" (peek 1))) (notT (tru (isi "tuple" (peek 0))))) (retS (kon (.bool false))) skip)
    (seqS (ifS (andT (tru (isi "list" (peek 1))) (notT (tru (isi "list" (peek 0))))) (retS (kon (.bool false))) skip)
    (seqS (ifS (asT (bin (eqS true) (callB lenS (conB (peek 0) nilB)) (callB lenS (conB (peek 1) nilB)))) (retS (kon (.bool false))) skip)
    (seqS (forS (rngD1 (conB (callB lenS (conB (peek 1) nilB)) nilB)) (setD 2) (law_same_w1 self))
    (retS (kon (.bool true))))))))))))
def law_same_r : Nat → List D → R SV
  | 0 => fun _ => .bad
  | n + 1 => runB 2 3 (law_same_b (law_same_r n))
def law_same_f : List D → R SV := law_same_r 8
def law_words_b : En → R Fl :=
    (seqS (asgS 2 (kon (.str "abcdefghijklmnopqrstuvwxyz")))
    (seqS (asgS 3 (bin modS (callB intS (conB (bin fdivS (callB intS (conB (peek 0) nilB)) (kon (.int 26))) nilB)) (kon (.int 4))))
    (retS (lcE (rngD1 (conB (peek 1) nilB)) (setD 4) yesT (bin addS (bin addS (slice (kon (.str "xyz")) noO (someO (peek 3))) (bin ixS (peek 2) (bin modS (callB intS (conB (bin addS (callB intS (conB (peek 0) nilB)) (bin mulA (kon (.int 3)) (peek 4))) nilB)) (kon (.int 26))))) (slice (kon (.str "xyzw")) (someO (peek 3)) noO)) [4]))))
def law_words_f : List D → R SV := runB 2 5 law_words_b
def law_worths_b : En → R Fl :=
    (seqS (asgS 2 (kon (.str "0123456789_abcdefghijklmnopqrstuvwxyz")))
    (seqS (asgS 3 (bin modS (callB intS (conB (bin fdivS (callB intS (conB (peek 0) nilB)) (kon (.int 37))) nilB)) (kon (.int 3))))
    (retS (lcE (rngD1 (conB (peek 1) nilB)) (setD 4) yesT (bin addS (bin addS (slice (kon (.str "v7_")) noO (someO (peek 3))) (bin ixS (peek 2) (bin modS (callB intS (conB (bin addS (callB intS (conB (peek 0) nilB)) (bin mulA (kon (.int 5)) (peek 4))) nilB)) (kon (.int 37))))) (slice (kon (.str "0_")) (someO (peek 3)) noO)) [4]))))
def law_worths_f : List D → R SV := runB 2 5 law_worths_b
def law_labels_w1 : En → R Fl :=
    (kill [5, 6] (seqS (asgS 6 (bin ixS (peek 1) (bin modS (callB intS (conB (bin ixS (peek 0) (peek 5)) nilB)) (callB lenS (conB (peek 1) nilB)))))
    (ifS (asT (bin (inS true) (peek 6) (peek 4))) (seqS (appS 4 (getV 6))
    (appS 3 (dispT (conA (getV 6) (conA (bin ixS (peek 2) (bin modS (callB intS (conB (bin ixS (peek 0) (bin addS (peek 5) (kon (.int 1)))) nilB)) (callB lenS (conB (peek 2) nilB)))) nilA))))) skip)))
def law_labels_b : En → R Fl :=
    (seqS (asgS 3 (dispL nilA))
    (seqS (asgS 4 (dispL nilA))
    (seqS (forS (rngD3 (conB (kon (.int 0)) (conB (bin subS (callB lenS (conB (peek 0) nilB)) (kon (.int 1))) (conB (kon (.int 2)) nilB)))) (setD 5) law_labels_w1)
    (retS (callB tupS (conB (callB sortedS (conB (peek 3) nilB)) nilB))))))
def law_labels_f : List D → R SV := runB 3 7 law_labels_b
def law_matcher_b : En → R Fl :=
    (seqS (asgS 4 (bin addS (peek 3) (dispL (conA (kon (.str "")) nilA))))
    (seqS (asgS 5 (dispL (conA (bin ixS (peek 4) (bin modS (callB intS (conB (bin fdivS (peek 0) (kon (.int 7))) nilB)) (callB lenS (conB (peek 4) nilB)))) nilA)))
    (seqS (ifS (asT (bin (eqS false) (bin modS (callB intS (conB (peek 1) nilB)) (kon (.int 3))) (kon (.int 0)))) (appS 5 (bin ixS (peek 4) (bin modS (callB intS (conB (bin fdivS (peek 0) (kon (.int 50))) nilB)) (callB lenS (conB (peek 4) nilB))))) skip)
    (retS (dispT (conA (bin ixS (peek 2) (bin modS (callB intS (conB (peek 0) nilB)) (callB lenS (conB (peek 2) nilB)))) (conA (callB tupS (conB (peek 5) nilB)) (conA (bin (eqS false) (bin modS (callB intS (conB (peek 1) nilB)) (kon (.int 2))) (kon (.int 0))) nilA))))))))
def law_matcher_f : List D → R SV := runB 4 6 law_matcher_b
def law_value_w1 : En → R Fl :=
    (kill [2] (ifS (asT (bin (eqS false) (bin ixS (peek 2) (kon (.int 0))) (peek 1))) (retS (bin ixS (peek 2) (kon (.int 1)))) skip))
def law_value_b : En → R Fl :=
    (seqS (forS (seqD (getV 0)) (setD 2) law_value_w1)
    (retS (kon (.str ""))))
def law_value_f : List D → R SV := runB 2 3 law_value_b
def law_matches_w1 : En → R Fl :=
    (kill [2, 3, 4] (ifS (asT (bin (eqS true) (bin (inS false) (callF 2 law_value_f (conA (getV 1) (conA (getV 2) nilA))) (peek 3)) (peek 4))) (retS (kon (.bool false))) skip))
def law_matches_b : En → R Fl :=
    (seqS (forS (seqD (getV 0)) (tupG 3 (gsC (setD 2) (gsC (setD 3) (gsC (setD 4) gsN)))) law_matches_w1)
    (retS (kon (.bool true))))
def law_matches_f : List D → R SV := runB 2 5 law_matches_b
def law_way_w1 : En → R Fl :=
    (kill [5] (ifS (andT (asT (bin (isnS false) (peek 4) (kon .none))) (andT (asT (bin (eqS false) (bin ixS (bin ixS (peek 0) (peek 5)) (kon (.int 0))) (bin ixS (peek 2) (una negS (kon (.int 1)))))) (tru (callF 2 law_matches_f (conA (bin ixS (bin ixS (peek 0) (peek 5)) (kon (.int 1))) (conA (getV 1) nilA)))))) (asgS 4 (getV 5)) skip))
def law_way_w2 : En → R Fl :=
    (kill [3, 4, 5] (seqS (asgS 4 (kon .none))
    (seqS (forS (rngD2 (conB (kon (.int 1)) (conB (callB lenS (conB (peek 0) nilB)) nilB))) (setD 5) law_way_w1)
    (ifS (asT (bin (isnS true) (peek 4) (kon .none))) (appS 2 (getV 4)) skip))))
def law_way_b : En → R Fl :=
    (seqS (asgS 2 (dispL (conA (kon (.int 0)) nilA)))
    (seqS (forS (rngD1 (conB (callB lenS (conB (peek 0) nilB)) nilB)) (setD 3) law_way_w2)
    (retV 2)))
def law_way_f : List D → R SV := runB 2 6 law_way_b
def law_route_w1 : En → R Fl :=
    (kill [9] (appS 8 (callF 4 law_matcher_f (conA (bin ixS (peek 6) (bin addS (kon (.int 2)) (bin mulA (kon (.int 2)) (peek 9)))) (conA (bin ixS (peek 6) (bin addS (kon (.int 3)) (bin mulA (kon (.int 2)) (peek 9)))) (conA (getV 2) (conA (getV 3) nilA)))))))
def law_route_b : En → R Fl :=
    (seqS (asgS 6 (callF 2 law_draws_f (conA (getV 0) (conA (kon (.int 16)) nilA))))
    (seqS (asgS 7 (kon .none))
    (seqS (asgS 8 (dispL nilA))
    (seqS (ifS (asT (bin gtS (peek 1) (kon (.int 0)))) (seqS (asgS 7 (bin modS (callB intS (conB (bin ixS (peek 6) (kon (.int 0))) nilB)) (peek 1)))
    (forS (rngD1 (conB (bin modS (callB intS (conB (bin ixS (peek 6) (kon (.int 1))) nilB)) (kon (.int 3))) nilB)) (setD 9) law_route_w1)) skip)
    (seqS (asgS 10 (lcE (rngD1 (conB (bin modS (callB intS (conB (bin ixS (peek 6) (kon (.int 6))) nilB)) (kon (.int 3))) nilB)) (setD 9) yesT (bin ixS (peek 2) (bin modS (callB intS (conB (bin addS (bin ixS (peek 6) (kon (.int 7))) (peek 9)) nilB)) (callB lenS (conB (peek 2) nilB)))) [9]))
    (seqS (asgS 11 (bin addS (kon (.int 1)) (bin modS (callB intS (conB (bin ixS (peek 6) (kon (.int 9))) nilB)) (kon (.int 6)))))
    (seqS (asgS 12 (bin addS (peek 11) (bin modS (callB intS (conB (bin ixS (peek 6) (kon (.int 10))) nilB)) (kon (.int 9)))))
    (seqS (asgS 13 (slice (peek 5) noO (someO (bin modS (callB intS (conB (bin ixS (peek 6) (kon (.int 11))) nilB)) (bin addS (callB lenS (conB (peek 5) nilB)) (kon (.int 1)))))))
    (seqS (asgS 14 (bin ixS (peek 4) (bin modS (callB intS (conB (bin ixS (peek 6) (kon (.int 12))) nilB)) (callB lenS (conB (peek 4) nilB)))))
    (frzS [11, 12] (retS (dispT (conA (getV 7) (conA (callB tupS (conB (peek 8) nilB)) (conA (dispT (conA (callB tupS (conB (peek 10) nilB)) (conA (bin modS (callB intS (conB (bin ixS (peek 6) (kon (.int 8))) nilB)) (kon (.int 5))) (conA (getV 11) (conA (getV 12) (conA (callB tupS (conB (peek 13) nilB)) (conA (getV 14) nilA))))))) nilA)))))))))))))))
def law_route_f : List D → R SV := runB 6 15 law_route_b
def law_tree_w1 : En → R Fl :=
    (kill [6] (ifS (orT (asT (bin (eqS false) (peek 6) (peek 1))) (asT (bin ltS (peek 6) (callB lenS (conB (peek 0) nilB))))) (appS 5 (callF 6 law_route_f (conA (callF 2 law_cell_f (conA (getV 0) (conA (getV 6) nilA))) (conA (bin subS (peek 6) (peek 1)) (conA (getV 3) (conA (getV 4) (conA (dispL (conA (kon (.str "pol")) (conA (kon (.str "other")) nilA))) (conA (dispL (conA (kon (.str "night")) (conA (kon (.str "noon")) nilA))) nilA)))))))) skip))
def law_tree_b : En → R Fl :=
    (seqS (asgS 5 (dispL nilA))
    (seqS (forS (rngD2 (conB (peek 1) (conB (peek 2) nilB))) (setD 6) law_tree_w1)
    (retV 5)))
def law_tree_f : List D → R SV := runB 5 7 law_tree_b
def law_times_w1 : En → R Fl :=
    (kill [5] (appS 3 (bin addS (peek 4) (dispT (conA (dispT (conA (getV 1) (conA (getV 5) nilA))) nilA)))))
def law_times_w2 : En → R Fl :=
    (kill [4, 5] (forS (seqD (getV 2)) (setD 5) law_times_w1))
def law_times_b : En → R Fl :=
    (seqS (asgS 3 (dispL nilA))
    (seqS (forS (seqD (getV 0)) (setD 4) law_times_w2)
    (retV 3)))
def law_times_f : List D → R SV := runB 3 6 law_times_b
def law_samples_w1 : En → R Fl :=
    (kill [2] (ifS (asT (bin (inS true) (bin ixS (peek 2) (kon (.int 0))) (peek 1))) (appS 1 (bin ixS (peek 2) (kon (.int 0)))) skip))
def law_samples_w2 : En → R Fl :=
    (kill [2] (ifS (asT (bin (eqS false) (bin ixS (peek 2) (kon (.int 0))) (peek 4))) (asgS 5 (bin addS (peek 5) (lcE (seqD (bin ixS (peek 2) (kon (.int 1)))) (setD 11) (asT (bin (inS true) (peek 11) (peek 5))) (getV 11) [11]))) skip))
def law_samples_w3 : En → R Fl :=
    (kill [8] (ifS (asT (bin (inS false) (bin mulA (kon (.str "x")) (peek 7)) (peek 5))) (asgS 7 (bin addS (peek 7) (kon (.int 1)))) skip))
def law_samples_w4 : En → R Fl :=
    (kill [2, 4, 5, 6, 7, 8] (seqS (asgS 5 (dispL nilA))
    (seqS (forS (seqD (getV 0)) (setD 2) law_samples_w2)
    (seqS (frzS [5] (asgS 6 (bin addS (dispL (conA (kon (.str "")) nilA)) (lcE (enumD (getV 5)) (tupG 2 (gsC (setD 10) (gsC (setD 11) gsN))) (andT (asT (bin (eqS true) (peek 11) (kon (.str "")))) (asT (bin (inS true) (peek 11) (slice (peek 5) noO (someO (peek 10)))))) (getV 11) [10, 11]))))
    (seqS (ifS (asT (bin (inS false) (kon (.str "")) (peek 5))) (seqS (asgS 7 (kon (.int 1)))
    (seqS (forS (rngD1 (conB (bin addS (callB lenS (conB (peek 5) nilB)) (kon (.int 1))) nilB)) (setD 8) law_samples_w3)
    (appS 6 (bin mulA (kon (.str "x")) (peek 7))))) skip)
    (seqS (ifS (asT (bin gtS (bin mulA (callB lenS (conB (peek 3) nilB)) (callB lenS (conB (peek 6) nilB))) (kon (.int 300)))) (retS (kon .none)) skip)
    (frzS [3, 6] (asgS 3 (callF 3 law_times_f (conA (getV 3) (conA (getV 4) (conA (getV 6) nilA))))))))))))
def law_samples_b : En → R Fl :=
    (seqS (asgS 1 (dispL nilA))
    (seqS (forS (seqD (getV 0)) (setD 2) law_samples_w1)
    (seqS (asgS 3 (dispL (conA (dispT nilA) nilA)))
    (seqS (frzS [1] (forS (seqD (getV 1)) (setD 4) law_samples_w4))
    (frzS [3] (retS (lcE (seqD (getV 3)) (setD 9) yesT (callB tupS (conB (callB sortedS (conB (lcE (seqD (getV 9)) (setD 12) (asT (bin (eqS true) (bin ixS (peek 12) (kon (.int 1))) (kon (.str "")))) (getV 12) [12]) nilB)) nilB)) [9])))))))
def law_samples_f : List D → R SV := runB 1 13 law_samples_b
def law_case_w1 : En → R Fl :=
    (kill [4] (ifS (asT (bin (eqS false) (bin modS (peek 4) (kon (.int 2))) (kon (.int 0)))) (setS 3 (peek 4) (dispT (conA (bin ixS (bin ixS (peek 3) (bin subS (peek 4) (kon (.int 1)))) (kon (.int 0))) (conA (bin addS (bin ixS (bin ixS (peek 3) (bin subS (peek 4) (kon (.int 1)))) (kon (.int 1))) (slice (bin ixS (bin ixS (peek 3) (peek 4)) (kon (.int 1))) noO (someO (kon (.int 1))))) (conA (bin ixS (bin ixS (peek 3) (peek 4)) (kon (.int 2))) nilA))))) skip))
def law_case_w2 : En → R Fl :=
    (kill [8, 9, 10] (asgS 7 (bin addS (peek 7) (callB listS (conB (peek 9) nilB)))))
def law_case_b : En → R Fl :=
    (seqS (asgS 1 (callF 2 law_words_f (conA (callF 2 law_cell_f (conA (getV 0) (conA (kon (.int 0)) nilA))) (conA (kon (.int 3)) nilA))))
    (seqS (asgS 2 (callF 2 law_worths_f (conA (callF 2 law_cell_f (conA (getV 0) (conA (kon (.int 1)) nilA))) (conA (kon (.int 2)) nilA))))
    (seqS (frzS [1, 2] (asgS 3 (callF 5 law_tree_f (conA (getV 0) (conA (kon (.int 3)) (conA (bin addS (kon (.int 4)) (bin modS (callF 2 law_cell_f (conA (getV 0) (conA (kon (.int 0)) nilA))) (kon (.int 6)))) (conA (getV 1) (conA (getV 2) nilA))))))))
    (seqS (ifS (asT (bin (eqS false) (bin modS (callF 2 law_cell_f (conA (getV 0) (conA (kon (.int 1)) nilA))) (kon (.int 2))) (kon (.int 0)))) (forS (rngD2 (conB (kon (.int 2)) (conB (callB lenS (conB (peek 3) nilB)) nilB))) (setD 4) law_case_w1) skip)
    (seqS (asgS 5 (callF 2 law_draws_f (conA (callF 2 law_cell_f (conA (getV 0) (conA (kon (.int 2)) nilA))) (conA (kon (.int 6)) nilA))))
    (seqS (frzS [1, 2] (asgS 6 (lcE (rngD1 (conB (bin modS (callB intS (conB (bin ixS (peek 5) (kon (.int 5))) nilB)) (kon (.int 3))) nilB)) (setD 4) yesT (callF 4 law_matcher_f (conA (bin ixS (peek 5) (bin mulA (kon (.int 2)) (peek 4))) (conA (bin ixS (peek 5) (bin addS (bin mulA (kon (.int 2)) (peek 4)) (kon (.int 1)))) (conA (getV 1) (conA (getV 2) nilA))))) [4])))
    (seqS (asgS 7 (callB listS (conB (peek 6) nilB)))
    (seqS (frzS [3] (forS (seqD (getV 3)) (tupG 3 (gsC (setD 8) (gsC (setD 9) (gsC (setD 10) gsN)))) law_case_w2))
    (seqS (frzS [7] (asgS 11 (callF 1 law_samples_f (conA (getV 7) nilA))))
    (seqS (ifS (asT (bin (isnS true) (peek 11) (kon .none))) (frzS [6, 11] (asgS 11 (lcE (seqD (getV 11)) (setD 12) (tru (callF 2 law_matches_f (conA (getV 6) (conA (getV 12) nilA)))) (getV 12) [12]))) skip)
    (frzS [3, 6, 11] (retS (dispT (conA (getV 3) (conA (getV 6) (conA (getV 11) nilA))))))))))))))))
def law_case_f : List D → R SV := runB 1 13 law_case_b
def law_line_w1 : En → R Fl :=
    (kill [3] (ifS (andT (asT (bin (isnS true) (peek 1) (kon .none))) (asT (bin (eqS true) (peek 1) (kon (.int 0))))) (seqS (appS 2 (getV 1))
    (asgS 1 (bin ixS (bin ixS (peek 0) (peek 1)) (kon (.int 0))))) skip))
def law_line_b : En → R Fl :=
    (seqS (asgS 2 (dispL nilA))
    (seqS (forS (rngD1 (conB (callB lenS (conB (peek 0) nilB)) nilB)) (setD 3) law_line_w1)
    (retV 2)))
def law_line_f : List D → R SV := runB 2 4 law_line_b
def law_past_w1 : En → R Fl :=
    (kill [5] (ifS (andT (tru (callB allS (conB (lcE (seqD (getV 1)) (setD 6) yesT (callF 2 law_matches_f (conA (bin ixS (bin ixS (peek 0) (peek 6)) (kon (.int 1))) (conA (getV 5) nilA))) [6]) nilB))) (notT (tru (callB anyS (conB (lcE (seqD (getV 2)) (setD 6) yesT (callF 2 law_matches_f (conA (bin ixS (bin ixS (peek 0) (peek 6)) (kon (.int 1))) (conA (getV 5) nilA))) [6]) nilB))))) (appS 4 (getV 5)) skip))
def law_past_b : En → R Fl :=
    (seqS (asgS 4 (dispL nilA))
    (seqS (forS (seqD (getV 3)) (setD 5) law_past_w1)
    (retV 4)))
def law_past_f : List D → R SV := runB 4 7 law_past_b
def law_w1 : En → R Fl :=
    (kill [7] (frzS [6] (ifS (notT (tru (callF 4 law_past_f (conA (getV 1) (conA (getV 6) (conA (lcE (seqD (getV 9)) (setD 12) (asT (bin (eqS true) (peek 12) (peek 7))) (getV 12) [12]) (conA (getV 3) nilA))))))) (retS (kon (.bool false))) skip)))
def law_w2 : En → R Fl :=
    (kill [7, 11] (seqS (frzS [10] (asgS 11 (lcE (seqD (getV 10)) (setD 12) (asT (bin (eqS true) (peek 12) (peek 7))) (getV 12) [12])))
    (frzS [6, 11] (ifS (notT (tru (callF 4 law_past_f (conA (getV 1) (conA (getV 6) (conA (getV 11) (conA (getV 3) nilA))))))) (frzS [11] (asgS 10 (getV 11))) skip))))
def law_w3 : En → R Fl :=
    (kill [5, 6, 7, 8, 9, 10, 11] (ifS (asT (bin (isnS false) (bin ixS (bin ixS (peek 4) (peek 5)) (kon (.int 1))) (kon .none))) (seqS (asgS 6 (callF 2 law_line_f (conA (getV 1) (conA (getV 5) nilA))))
    (seqS (frzS [6] (asgS 8 (lcE (rngD2 (conB (kon (.int 1)) (conB (callB lenS (conB (peek 1) nilB)) nilB))) (setD 7) (tru (callB anyS (conB (lcE (seqD (getV 6)) (setD 12) yesT (andV (bin ltS (peek 7) (peek 12)) (bin (eqS false) (bin ixS (bin ixS (peek 1) (peek 7)) (kon (.int 0))) (bin ixS (bin ixS (peek 1) (peek 12)) (kon (.int 0))))) [12]) nilB))) (getV 7) [7])))
    (seqS (asgS 9 (bin ixS (bin ixS (peek 4) (peek 5)) (kon (.int 2))))
    (seqS (frzS [6] (ifS (orT (tru (lcE (seqD (getV 9)) (setD 7) (asT (bin (inS true) (peek 7) (peek 8))) (getV 7) [7])) (tru (callF 4 law_past_f (conA (getV 1) (conA (getV 6) (conA (getV 9) (conA (getV 3) nilA))))))) (retS (kon (.bool false))) skip))
    (seqS (forS (seqD (getV 9)) (setD 7) law_w1)
    (seqS (asgS 10 (callB listS (conB (peek 8) nilB)))
    (seqS (frzS [8] (forS (seqD (getV 8)) (setD 7) law_w2))
    (frzS [10] (ifS (notT (tru (callF 2 law_same_f (conA (getV 9) (conA (getV 10) nilA))))) (retS (kon (.bool false))) skip))))))))) skip))
def law_b : En → R Fl :=
    (seqS (asgG (tupG 3 (gsC (setD 1) (gsC (setD 2) (gsC (setD 3) gsN)))) (callF 1 law_case_f (conA (getV 0) nilA)))
    (seqS (ifS (asT (bin (isnS false) (peek 3) (kon .none))) (retS (kon (.bool true))) skip)
    (seqS (asgS 4 (callF 2 survey_f (conA (callB listS (conB (peek 1) nilB)) (conA (callB listS (conB (peek 2) nilB)) nilA))))
    (seqS (forS (rngD1 (conB (callB lenS (conB (peek 1) nilB)) nilB)) (setD 5) law_w3)
    (retS (kon (.bool true)))))))
def law_f : List D → R SV := runB 1 13 law_b
/-! ### the promises -/
section
variable {P : Program} {w : World} {K : PySem.W.Frag} {mg : Str → Option Value} {base : Heap} {cm : Nat → Addr × List Str}
structure Bl (K : PySem.W.Frag) (mg : Str → Option Value) (cm : Nat → Addr × List Str) (A_TooManySamples : Addr) : Prop where
  all_ : mg "all" = none
  any_ : mg "any" = none
  bool_ : mg "bool" = none
  enumerate_ : mg "enumerate" = none
  int_ : mg "int" = none
  isinstance_ : mg "isinstance" = none
  len_ : mg "len" = none
  list_ : mg "list" = none
  range_ : mg "range" = none
  sorted_ : mg "sorted" = none
  str_ : mg "str" = none
  tuple_ : mg "tuple" = none
  zip_ : mg "zip" = none
  m0 : cm 0 = (A_TooManySamples, [])
  z0 : Xc K mg "TooManySamples" A_TooManySamples
  g_TooManySamples : mg "TooManySamples" = some (.ref A_TooManySamples)
variable {A_TooManySamples : Addr}
theorem ok_value_of (Bz : Bl K mg cm A_TooManySamples)  {f_value_of : Addr} {fd_value_of : FuncData} (T_value_of : Fn K mg "value_of" s_value_of ["labels", "name"] f_value_of fd_value_of) : FnOk P w K mg base CX0 1 f_value_of fd_value_of ["labels", "name"] (spF w K cm 2 value_of_f) := by
  refine mk_ok (k := 0) T_value_of.F sc_value_of fun cdv A outer s H E hr => ⟨_,
    (pss_cons (ps_for PassesOwn.never rfl (pi_seq (pv 0)) (pg_name (i := 2) sc_value_of.nd rfl (.inl rfl)) (pss_one (ps_if (pt_cmpR (o_eq hr.units) (pe_ix ix_seq (pv 2) pe_int (fun _ _ => rfl)) (pv 1) (nomark _)) (pss_one (ps_ret (pe_ix ix_seq (pv 2) pe_int (fun _ _ => rfl)))) pss_nil)))
    (pss_one (ps_ret pe_str))), ?_⟩
  exact fun ex => (sem_seq (sem_for (sem_seqI sem_var) (sem_gName (i := 2)) (sem_kill (is := [2]) (sem_if (sem_tTest (sem_bin r2_eq (SemE.look (sem_bin r2_ix sem_peek sem_int)) sem_peek)) (sem_ret (sem_bin r2_ix sem_peek sem_int)) sem_skip)))
    (sem_ret sem_str))
theorem ok_matches (Bz : Bl K mg cm A_TooManySamples) {f_value_of : Addr} {fd_value_of : FuncData} (T_value_of : Fn K mg "value_of" s_value_of ["labels", "name"] f_value_of fd_value_of) {f_matches : Addr} {fd_matches : FuncData} (T_matches : Fn K mg "matches" s_matches ["matcher", "labels"] f_matches fd_matches) : FnOk P w K mg base CX0 2 f_matches fd_matches ["matcher", "labels"] (spF w K cm 2 matches_f) := by
  have G_value_of : FnOk P w K mg base CX0 1 f_value_of fd_value_of ["labels", "name"] (spF w K cm 2 value_of_f) := ok_value_of Bz  T_value_of
  refine mk_ok (k := 1) T_matches.F sc_matches fun cdv A outer s H E hr => ⟨_,
    (pss_cons (ps_asg (pv 0) (pg_sq (by rfl) (pgs_cons (pg_name (i := 2) sc_matches.nd rfl (.inl rfl)) (pgs_cons (pg_name (i := 3) sc_matches.nd rfl (.inl rfl)) (pgs_cons (pg_name (i := 4) sc_matches.nd rfl (.inl rfl)) pgs_nil)))))
    (pss_cons (ps_set (i := 5) sc_matches.nd rfl (.inl rfl) (pe_cmpR (o_in (u65 hr)) (pe_call (G_value_of) (hr.mono (by omega)) (by rfl) T_value_of.m T_value_of.F.kp T_value_of.b .nil (passE (E := E)) (pa_cons (pv 1) (pa_cons (pv 2) pa_nil))) (pv 3) (by rfl)))
    (pss_one (ps_ret (pe_cmpR (o_eq hr.units) (pv 5) (pv 4) (nomark _)))))), ?_⟩
  exact fun ex => (sem_seq (sem_asgG sem_var (sem_gTup (n := 3) (sem_gsC (sem_gName (i := 2)) (sem_gsC (sem_gName (i := 3)) (sem_gsC (sem_gName (i := 4)) sem_gsN)))))
    (sem_seq (sem_set (sem_bin r2_in (SemE.look (sem_call (sem_conA sem_var (sem_conA sem_var sem_nilA)))) sem_peek))
    (sem_ret (sem_bin r2_eq sem_peek sem_peek))))
theorem ok_matches_all (Bz : Bl K mg cm A_TooManySamples) {f_matches : Addr} {fd_matches : FuncData} (T_matches : Fn K mg "matches" s_matches ["matcher", "labels"] f_matches fd_matches) {f_value_of : Addr} {fd_value_of : FuncData} (T_value_of : Fn K mg "value_of" s_value_of ["labels", "name"] f_value_of fd_value_of) {f_matches_all : Addr} {fd_matches_all : FuncData} (T_matches_all : Fn K mg "matches_all" s_matches_all ["matchers", "labels"] f_matches_all fd_matches_all) : FnOk P w K mg base CX0 3 f_matches_all fd_matches_all ["matchers", "labels"] (spF w K cm 2 matches_all_f) := by
  have G_matches : FnOk P w K mg base CX0 2 f_matches fd_matches ["matcher", "labels"] (spF w K cm 2 matches_f) := ok_matches Bz T_value_of T_matches
  refine mk_ok (k := 2) T_matches_all.F sc_matches_all fun cdv A outer s H E hr => ⟨_,
    (pss_cons (ps_for PassesOwn.never rfl (pi_seq (pv 0)) (pg_name (i := 2) sc_matches_all.nd rfl (.inl rfl)) (pss_one (ps_if (pt_not (pt_truth (pe_call (G_matches) (hr.mono (by omega)) (by rfl) T_matches.m T_matches.F.kp T_matches.b .nil (passE (E := E)) (pa_cons (pv 2) (pa_cons (pv 1) pa_nil))) (fun _ => rfl))) (pss_one (ps_ret pe_bl)) pss_nil)))
    (pss_one (ps_ret pe_bl))), ?_⟩
  exact fun ex => (sem_seq (sem_for (sem_seqI sem_var) (sem_gName (i := 2)) (sem_kill (is := [2]) (sem_if (sem_not (sem_tru (SemE.look (sem_call (sem_conA sem_var (sem_conA sem_var sem_nilA)))))) (sem_ret sem_bl) sem_skip)))
    (sem_ret sem_bl))
theorem ok_later (Bz : Bl K mg cm A_TooManySamples) {f_matches_all : Addr} {fd_matches_all : FuncData} (T_matches_all : Fn K mg "matches_all" s_matches_all ["matchers", "labels"] f_matches_all fd_matches_all) {f_matches : Addr} {fd_matches : FuncData} (T_matches : Fn K mg "matches" s_matches ["matcher", "labels"] f_matches fd_matches) {f_value_of : Addr} {fd_value_of : FuncData} (T_value_of : Fn K mg "value_of" s_value_of ["labels", "name"] f_value_of fd_value_of) {f_later : Addr} {fd_later : FuncData} (T_later : Fn K mg "_later" s_later ["routes", "at", "labels"] f_later fd_later) : FnOk P w K mg base CX0 4 f_later fd_later ["routes", "at", "labels"] (spF w K cm 3 later_f) := by
  have G_matches_all : FnOk P w K mg base CX0 3 f_matches_all fd_matches_all ["matchers", "labels"] (spF w K cm 2 matches_all_f) := ok_matches_all Bz T_matches T_value_of T_matches_all
  refine mk_ok (k := 3) T_later.F sc_later fun cdv A outer s H E hr => ⟨_,
    (pss_cons (ps_for PassesOwn.never rfl (pi_range2 rfl Bz.range_ (pa_cons (pe_op o_add (pv 1) pe_int) (pa_cons (pe_callB cb_len (by rfl) Bz.len_ (by decide +kernel) (pa_cons (pv 0) pa_nil)) pa_nil))) (pg_name (i := 3) sc_later.nd rfl (.inl rfl)) (pss_one (ps_if (PW.pt (pw_and (pt_cmpR (o_eq hr.units) (pe_ix ix_seq (pe_ix ix_seq (pv 0) (pv 3) (fun _ _ => rfl)) pe_int (fun _ _ => rfl)) (pv 1) (nomark _)) (pw_and1 (pt_truth (pe_call (G_matches_all) (hr.mono (by omega)) (by rfl) T_matches_all.m T_matches_all.F.kp T_matches_all.b .nil (passE (E := E)) (pa_cons (pe_ix ix_seq (pe_ix ix_seq (pv 0) (pv 3) (fun _ _ => rfl)) pe_int (fun _ _ => rfl)) (pa_cons (pv 2) pa_nil))) (fun _ => rfl))))) (pss_one (ps_ret (pv 3))) pss_nil)))
    (pss_one (ps_ret pe_non))), ?_⟩
  exact fun ex => (sem_seq (sem_for (sem_rng2 (sem_conB (SemE.look (sem_bin r2_add sem_peek sem_int)) (sem_conB (SemE.look (sem_callB c1_len (sem_conB sem_peek sem_nilB))) sem_nilB))) (sem_gName (i := 3)) (sem_kill (is := [3]) (sem_if (sem_and (sem_tTest (sem_bin r2_eq (SemE.look (sem_bin r2_ix (SemE.look (sem_bin r2_ix sem_peek sem_peek)) sem_int)) sem_peek)) (sem_tru (SemE.look (sem_call (sem_conA (sem_bin r2_ix (SemE.look (sem_bin r2_ix sem_peek sem_peek)) sem_int) (sem_conA sem_var sem_nilA)))))) (sem_retV (i := 3)) sem_skip)))
    (sem_ret sem_non))
theorem ok_way (Bz : Bl K mg cm A_TooManySamples) {f_later : Addr} {fd_later : FuncData} (T_later : Fn K mg "_later" s_later ["routes", "at", "labels"] f_later fd_later) {f_matches_all : Addr} {fd_matches_all : FuncData} (T_matches_all : Fn K mg "matches_all" s_matches_all ["matchers", "labels"] f_matches_all fd_matches_all) {f_matches : Addr} {fd_matches : FuncData} (T_matches : Fn K mg "matches" s_matches ["matcher", "labels"] f_matches fd_matches) {f_value_of : Addr} {fd_value_of : FuncData} (T_value_of : Fn K mg "value_of" s_value_of ["labels", "name"] f_value_of fd_value_of) {f_way : Addr} {fd_way : FuncData} (T_way : Fn K mg "way" s_way ["routes", "labels"] f_way fd_way) : FnOk P w K mg base CX0 5 f_way fd_way ["routes", "labels"] (spF w K cm 2 way_f) := by
  have G_later : FnOk P w K mg base CX0 4 f_later fd_later ["routes", "at", "labels"] (spF w K cm 3 later_f) := ok_later Bz T_matches_all T_matches T_value_of T_later
  refine mk_ok (k := 4) T_way.F sc_way fun cdv A outer s H E hr => ⟨_,
    (pss_cons (ps_set (i := 2) sc_way.nd rfl (.inl rfl) (pe_lst (pa_cons pe_int pa_nil)))
    (pss_cons (ps_set (i := 3) sc_way.nd rfl (.inl rfl) (pe_call (G_later) (hr.mono (by omega)) (by rfl) T_later.m T_later.F.kp T_later.b .nil (passE (E := E)) (pa_cons (pv 0) (pa_cons pe_int (pa_cons (pv 1) pa_nil)))))
    (pss_cons (ps_while PassesOwn.never (pt_cmpR op_notN (pv 3) pe_non (nomark _)) (pss_cons (ps_expr (pe_bm PySem.F.plainAttrs_list PySem.F.slot_list_append PySem.F.type_list_append mt_append (pv 2) (pa_cons (pv 3) pa_nil)))
    (pss_one (ps_set (i := 3) sc_way.nd rfl (.inl rfl) (pe_call (G_later) (hr.mono (by omega)) (by rfl) T_later.m T_later.F.kp T_later.b .nil (passE (E := E)) (pa_cons (pv 0) (pa_cons (pv 3) (pa_cons (pv 1) pa_nil))))))))
    (pss_one (ps_ret (pv 2)))))), ?_⟩
  exact fun ex => (sem_seq (sem_set (sem_lst (sem_conA sem_int sem_nilA)))
    (sem_seq (sem_set (sem_call (sem_conA sem_var (sem_conA sem_int (sem_conA sem_var sem_nilA)))))
    (sem_seq (sem_while (μ := fuel) (sem_tTest (sem_bin r2_notn sem_peek sem_non)) (sem_seq (sem_frz (is := [3]) (sem_app (i := 2) sem_var))
    (sem_frz (is := [3]) (sem_set (sem_call (sem_conA sem_var (sem_conA sem_var (sem_conA sem_var sem_nilA))))))))
    (sem_retV (i := 2)))))
theorem ok_choices (Bz : Bl K mg cm A_TooManySamples)  {f_choices : Addr} {fd_choices : FuncData} (T_choices : Fn K mg "_choices" s_choices ["matchers", "name"] f_choices fd_choices) : FnOk P w K mg base CX0 1 f_choices fd_choices ["matchers", "name"] (spF w K cm 2 choices_f) := by
  refine mk_ok (k := 0) T_choices.F sc_choices fun cdv A outer s H E hr => ⟨_,
    (pss_cons (ps_set (i := 2) sc_choices.nd rfl (.inl rfl) (pe_lst (pa_cons pe_str pa_nil)))
    (pss_cons (ps_set (i := 3) sc_choices.nd rfl (.inl rfl) pe_dnewK)
    (pss_cons (ps_for PassesOwn.never rfl (pi_seq (pv 0)) (pg_name (i := 4) sc_choices.nd rfl (.inl rfl)) (pss_one (ps_if (pt_cmpR (o_eq hr.units) (pe_ix ix_seq (pv 4) pe_int (fun _ _ => rfl)) (pv 1) (nomark _)) (pss_one (ps_for PassesOwn.never rfl (pi_seq (pe_ix ix_seq (pv 4) pe_int (fun _ _ => rfl))) (pg_name (i := 5) sc_choices.nd rfl (.inl rfl)) (pss_cons (ps_dput (u1 hr) (pv 3) (pv 5) pe_bl (by rfl))
    (pss_one (ps_if (pt_cmpR (o_notin (u65 hr)) (pv 5) (pv 2) (by rfl)) (pss_one (ps_expr (pe_bm PySem.F.plainAttrs_list PySem.F.slot_list_append PySem.F.type_list_append mt_append (pv 2) (pa_cons (pv 5) pa_nil)))) pss_nil))))) pss_nil)))
    (pss_cons (ps_if (pt_cmp (pc_din (u1 hr) pe_str (pv 3))) (pss_cons (ps_set (i := 6) sc_choices.nd rfl (.inl rfl) pe_str)
    (pss_cons (ps_while PassesOwn.never (pt_cmp (pc_din (u1 hr) (pv 6) (pv 3))) (pss_one (ps_set (i := 6) sc_choices.nd rfl (.inl rfl) (pe_op o_add (pv 6) pe_str))))
    (pss_one (ps_expr (pe_bm PySem.F.plainAttrs_list PySem.F.slot_list_append PySem.F.type_list_append mt_append (pv 2) (pa_cons (pv 6) pa_nil)))))) pss_nil)
    (pss_one (ps_ret (pv 2))))))), ?_⟩
  exact fun ex => (sem_seq (sem_set (sem_lst (sem_conA sem_str sem_nilA)))
    (sem_seq (sem_set sem_dnew)
    (sem_seq (sem_for (sem_seqI sem_var) (sem_gName (i := 4)) (sem_kill (is := [4, 5]) (sem_if (sem_tTest (sem_bin r2_eq (SemE.look (sem_bin r2_ix sem_peek sem_int)) sem_peek)) (sem_for (sem_seqI (sem_bin r2_ix sem_peek sem_int)) (sem_gName (i := 5)) (sem_kill (is := [5]) (sem_seq (sem_put (i := 3) sem_bl sem_peek)
    (sem_if (sem_tTest (sem_bin r2_notin sem_peek sem_peek)) (sem_app (i := 2) sem_var) sem_skip)))) sem_skip)))
    (sem_seq (sem_if (sem_tB (sem_inD (i := 3) sem_str)) (sem_seq (sem_set sem_str)
    (sem_seq (sem_while (μ := fuel) (sem_tB (sem_inD (i := 3) sem_peek)) (sem_set (sem_bin r2_add sem_peek sem_str)))
    (sem_frz (is := [6]) (sem_app (i := 2) sem_var)))) sem_skip)
    (sem_retV (i := 2))))))
theorem ok_count (Bz : Bl K mg cm A_TooManySamples) {t_MOST_SAMPLES : Tok} (C_MOST_SAMPLES : True ∧ mg "MOST_SAMPLES" = some (.int 300 t_MOST_SAMPLES))  {f_count : Addr} {fd_count : FuncData} (T_count : Fn K mg "_count" s_count ["rows"] f_count fd_count) : FnOk P w K mg base (L2.CX P w) 1 f_count fd_count ["rows"] (spF w K cm 1 count_f) := by
  refine mk_okX (k := 0) T_count.F sc_count fun cdv A outer s H E hr => ⟨_,
    (pss_cons (ps_set (i := 1) sc_count.nd rfl (.inl rfl) pe_int)
    (pss_one (ps_for (passes_of rfl) rfl (pi_seq (pv 0)) (pg_name (i := 2) sc_count.nd rfl (.inl rfl)) (pss_cons (ps_set (i := 1) sc_count.nd rfl (.inl rfl) (pe_op o_mul (pv 1) (pe_callB cb_len (by rfl) Bz.len_ (by decide +kernel) (pa_cons (pv 2) pa_nil))))
    (pss_one (ps_if (pt_cmpR o_gt (pv 1) (pe_glob (v := .int 300) (by rfl) C_MOST_SAMPLES.2 ⟨_, rfl⟩) (nomark _)) (pss_one (ps_raise0 Bz.z0 (by rfl))) pss_nil)))))), ?_⟩
  exact fun ex => (sem_seq (sem_set sem_int)
    (sem_for (sem_seqI sem_var) (sem_gName (i := 2)) (sem_kill (is := [2]) (sem_seq (sem_set (sem_bin r2_mulA sem_peek (SemE.look (sem_callB c1_len (sem_conB sem_peek sem_nilB)))))
    (sem_if (sem_tTest (sem_bin r2_gt sem_peek sem_int)) (sem_raise' Bz.m0) sem_skip)))))
theorem ok_sample_alerts (Bz : Bl K mg cm A_TooManySamples) {t_MOST_SAMPLES : Tok} (C_MOST_SAMPLES : True ∧ mg "MOST_SAMPLES" = some (.int 300 t_MOST_SAMPLES)) {f_choices : Addr} {fd_choices : FuncData} (T_choices : Fn K mg "_choices" s_choices ["matchers", "name"] f_choices fd_choices) {f_count : Addr} {fd_count : FuncData} (T_count : Fn K mg "_count" s_count ["rows"] f_count fd_count) {f_sample_alerts : Addr} {fd_sample_alerts : FuncData} (T_sample_alerts : Fn K mg "sample_alerts" s_sample_alerts ["matchers"] f_sample_alerts fd_sample_alerts) : FnOk P w K mg base (L2.CX P w) 2 f_sample_alerts fd_sample_alerts ["matchers"] (spF w K cm 1 sample_alerts_f) := by
  have G_choices : FnOk P w K mg base CX0 1 f_choices fd_choices ["matchers", "name"] (spF w K cm 2 choices_f) := ok_choices Bz  T_choices
  have G_count : FnOk P w K mg base (L2.CX P w) 1 f_count fd_count ["rows"] (spF w K cm 1 count_f) := ok_count Bz C_MOST_SAMPLES  T_count
  refine mk_okX (k := 1) T_sample_alerts.F sc_sample_alerts fun cdv A outer s H E hr => ⟨_,
    (pss_cons (ps_set (i := 1) sc_sample_alerts.nd rfl (.inl rfl) (pe_lst pa_nil))
    (pss_cons (ps_for (passes_of rfl) rfl (pi_seq (pv 0)) (pg_name (i := 2) sc_sample_alerts.nd rfl (.inl rfl)) (pss_one (ps_if (pt_cmpR (o_notin (u65 hr)) (pe_ix ix_seq (pv 2) pe_int (fun _ _ => rfl)) (pv 1) (by rfl)) (pss_one (ps_expr (pe_bm PySem.F.plainAttrs_list PySem.F.slot_list_append PySem.F.type_list_append mt_append (pv 1) (pa_cons (pe_ix ix_seq (pv 2) pe_int (fun _ _ => rfl)) pa_nil)))) pss_nil)))
    (pss_cons (ps_setLc (i := 4) (own := [("name", 3)]) (g := (gName 3)) (tt := tYes) (te := (tCall (spF w K cm 2 choices_f) [] E (tCons (tVar 0) (tCons (tVar 3) tNil)))) rfl sc_sample_alerts.nd rfl rfl (sw_true rfl rfl rfl (by decide +kernel)) (pi_seq (pv 1)) (blkOk_by (N := ["matchers", "names", "matcher", "name", "rows", "found", "row", "pairs", "worth", "pair"]) (sc := defScope s_sample_alerts) (by decide +kernel)) (fun _ _ _ _ _ => (pg_name (i := 3) sc_sample_alerts.nd rfl (.inl rfl))) (fun _ _ _ _ _ => pts_nil) (fun _ _ _ _ _ => (pe_call (G_choices) (hr.mono (by omega)) (by rfl) T_choices.m T_choices.F.kp T_choices.b .nil (passE (E := E)) (pa_cons (pv 0) (pa_cons (pv 3) pa_nil)))))
    (pss_cons (ps_expr (pe_call (G_count) (hr.mono (by omega)) (by rfl) T_count.m T_count.F.kp T_count.b .nil passX (pa_cons (pv 4) pa_nil)))
    (pss_cons (ps_set (i := 5) sc_sample_alerts.nd rfl (.inl rfl) (pe_lst (pa_cons (pe_tup pa_nil) pa_nil)))
    (pss_cons (ps_for (passes_of rfl) rfl (pi_zip rfl Bz.zip_ (pa_cons (pv 1) (pa_cons (pv 4) pa_nil))) (pg_sq (by rfl) (pgs_cons (pg_name (i := 3) sc_sample_alerts.nd rfl (.inr rfl)) (pgs_cons (pg_name (i := 6) sc_sample_alerts.nd rfl (.inr rfl)) pgs_nil))) (pss_one (ps_setLc2 (i := 5) (own := [("pairs", 7), ("worth", 8)]) (vs1 := [8]) (g := (gName 7)) (g1 := (gName 8)) (tt := tYes) (tt1 := tYes) (wi1 := (iSeq K (tVar 6))) (te := (tOp (rAddA K) (tVar 7) (tTup (tCons (tTup (tCons (tVar 3) (tCons (tVar 8) tNil))) tNil)))) rfl sc_sample_alerts.nd rfl rfl (sw_true rfl rfl rfl (by decide +kernel)) (pi_seq (pv 5)) (blkOk_by (N := ["matchers", "names", "matcher", "name", "rows", "found", "row", "pairs", "worth", "pair"]) (sc := defScope s_sample_alerts) (by decide +kernel)) (by decide) (fun _ _ _ _ _ => (pg_name (i := 7) sc_sample_alerts.nd rfl (.inl rfl))) (fun _ _ _ _ _ => pts_nil) (fun _ _ _ _ _ => (pi_seq (pv 6))) (fun _ _ _ _ _ => (pg_name (i := 8) sc_sample_alerts.nd rfl (.inl rfl))) (fun _ _ _ _ _ => pts_nil) (fun _ _ _ _ _ => (pe_op o_add (pv 7) (pe_tup (pa_cons (pe_tup (pa_cons (pv 3) (pa_cons (pv 8) pa_nil))) pa_nil)))))))
    (pss_one (ps_ret (pe_lc (own := [("pairs", 7)]) (g := (gName 7)) (tt := tYes) (te := (tCB (rTupl K) (tCons (tCB (rSortD K) (tCons (tLc (iSeq K (tVar 7)) (gName 9) (tTest (tOp (rNeA K) (tOp (rIx K) (tVar 9) (tC (.int 1))) (tC (.str "")))) (tVar 9) [9]) tNil)) tNil))) rfl sc_sample_alerts.nd (pi_seq (pv 5)) (blkOk_by (N := ["matchers", "names", "matcher", "name", "rows", "found", "row", "pairs", "worth", "pair"]) (sc := defScope s_sample_alerts) (by decide +kernel)) (fun _ _ _ _ _ => (pg_name (i := 7) sc_sample_alerts.nd rfl (.inl rfl))) (fun _ _ _ _ _ => pts_nil) (fun _ _ _ _ _ => (pe_callTy cb_tup (by rfl) Bz.tuple_ (by decide +kernel) (pa_cons (pe_callB (cb_sorted (u65 hr)) (by rfl) Bz.sorted_ (by decide +kernel) (pa_cons (pe_lc (own := [("pair", 9)]) (g := (gName 9)) (tt := (tTest (tOp (rNeA K) (tOp (rIx K) (tVar 9) (tC (.int 1))) (tC (.str ""))))) (te := (tVar 9)) rfl sc_sample_alerts.nd (pi_seq (pv 7)) (blkOk_by (N := ["matchers", "names", "matcher", "name", "rows", "found", "row", "pairs", "worth", "pair"]) (sc := ({ kind := PySem.ScopeKind.function, names := [ (PySem.Str.ofString ".0", PySem.NameKind.local), (PySem.Str.ofString "pairs", PySem.NameKind.local), (PySem.Str.ofString "tuple", PySem.NameKind.globalImplicit), (PySem.Str.ofString "sorted", PySem.NameKind.globalImplicit)], isGenerator := false, isCoroutine := false, more := [] : PySem.Scope } : Scope)) (by decide +kernel)) (fun _ _ _ _ _ => (pg_name (i := 9) sc_sample_alerts.nd rfl (.inl rfl))) (fun _ _ _ _ _ => (pts_one (pt_cmpR (o_ne hr.units) (pe_ix ix_seq (pv 9) pe_int (fun _ _ => rfl)) pe_str (nomark _)))) (fun _ _ _ _ _ => (pv 9))) pa_nil)) pa_nil)))))))))))), ?_⟩
  exact fun ex => (sem_seq (sem_set (sem_lst sem_nilA))
    (sem_seq (sem_for (sem_seqI sem_var) (sem_gName (i := 2)) (sem_kill (is := [2]) (sem_if (sem_tTest (sem_bin r2_notin (SemE.look (sem_bin r2_ix sem_peek sem_int)) sem_peek)) (sem_app (i := 1) (sem_bin r2_ix sem_peek sem_int)) sem_skip)))
    (sem_seq (sem_frz (is := [1]) (sem_set (sem_lc (vs := [3]) (sem_seqI sem_var) (sem_gName (i := 3)) sem_yes (sem_call (sem_conA sem_var (sem_conA sem_var sem_nilA))) (by decide))))
    (sem_seq (sem_frz (is := [4]) (sem_expr (sem_call (sem_conA sem_var sem_nilA))))
    (sem_seq (sem_set (sem_lst (sem_conA (sem_tup sem_nilA) sem_nilA)))
    (sem_seq (sem_frz (is := [1, 4]) (sem_for (sem_zip (sem_conA sem_var (sem_conA sem_var sem_nilA))) (sem_gTup (n := 2) (sem_gsC (sem_gName (i := 3)) (sem_gsC (sem_gName (i := 6)) sem_gsN))) (sem_kill (is := [3, 6]) (sem_frz (is := [5]) (sem_set (sem_lc2 (vs := [7, 8]) (vs1 := [8]) (sem_seqI sem_var) (sem_gName (i := 7)) sem_yes (sem_seqI sem_var) (sem_gName (i := 8)) sem_yes (sem_bin r2_add sem_peek (SemE.look (sem_tup (sem_conA (sem_tup (sem_conA sem_var (sem_conA sem_var sem_nilA))) sem_nilA)))) (by decide) (by decide)))))))
    (sem_frz (is := [5]) (sem_ret (sem_lc (vs := [7]) (sem_seqI sem_var) (sem_gName (i := 7)) sem_yes (sem_callB c1_tup (sem_conB (SemE.look (sem_callB c1_sorted (sem_conB (SemE.look (sem_lc (vs := [9]) (sem_seqI sem_var) (sem_gName (i := 9)) (sem_tTest (sem_bin r2_ne (SemE.look (sem_bin r2_ix sem_peek sem_int)) sem_str)) sem_var (by decide))) sem_nilB))) sem_nilB)) (by decide))))))))))
theorem ok_matchers_of (Bz : Bl K mg cm A_TooManySamples)  {f_matchers_of : Addr} {fd_matchers_of : FuncData} (T_matchers_of : Fn K mg "_matchers_of" s_matchers_of ["routes"] f_matchers_of fd_matchers_of) : FnOk P w K mg base CX0 1 f_matchers_of fd_matchers_of ["routes"] (spF w K cm 1 matchers_of_f) := by
  refine mk_ok (k := 0) T_matchers_of.F sc_matchers_of fun cdv A outer s H E hr => ⟨_,
    (pss_one (ps_ret (pe_lc2 (own := [("route", 1), ("matcher", 2)]) (vs1 := [2]) (g := (gName 1)) (g1 := (gName 2)) (tt := tYes) (tt1 := tYes) (wi1 := (iSeq K (tOp (rIx K) (tVar 1) (tC (.int 1))))) (te := (tVar 2)) rfl sc_matchers_of.nd (pi_seq (pv 0)) (blkOk_by (N := ["routes", "route", "matcher"]) (sc := defScope s_matchers_of) (by decide +kernel)) (by decide) (fun _ _ _ _ _ => (pg_name (i := 1) sc_matchers_of.nd rfl (.inl rfl))) (fun _ _ _ _ _ => pts_nil) (fun _ _ _ _ _ => (pi_seq (pe_ix ix_seq (pv 1) pe_int (fun _ _ => rfl)))) (fun _ _ _ _ _ => (pg_name (i := 2) sc_matchers_of.nd rfl (.inl rfl))) (fun _ _ _ _ _ => pts_nil) (fun _ _ _ _ _ => (pv 2))))), ?_⟩
  exact fun ex => (sem_ret (sem_lc2 (vs := [1, 2]) (vs1 := [2]) (sem_seqI sem_var) (sem_gName (i := 1)) sem_yes (sem_seqI (sem_bin r2_ix sem_peek sem_int)) (sem_gName (i := 2)) sem_yes sem_var (by decide) (by decide)))
theorem ok_considered (Bz : Bl K mg cm A_TooManySamples) {t_MOST_SAMPLES : Tok} (C_MOST_SAMPLES : True ∧ mg "MOST_SAMPLES" = some (.int 300 t_MOST_SAMPLES)) {f_sample_alerts : Addr} {fd_sample_alerts : FuncData} (T_sample_alerts : Fn K mg "sample_alerts" s_sample_alerts ["matchers"] f_sample_alerts fd_sample_alerts) {f_choices : Addr} {fd_choices : FuncData} (T_choices : Fn K mg "_choices" s_choices ["matchers", "name"] f_choices fd_choices) {f_count : Addr} {fd_count : FuncData} (T_count : Fn K mg "_count" s_count ["rows"] f_count fd_count) {f_matches_all : Addr} {fd_matches_all : FuncData} (T_matches_all : Fn K mg "matches_all" s_matches_all ["matchers", "labels"] f_matches_all fd_matches_all) {f_matches : Addr} {fd_matches : FuncData} (T_matches : Fn K mg "matches" s_matches ["matcher", "labels"] f_matches fd_matches) {f_value_of : Addr} {fd_value_of : FuncData} (T_value_of : Fn K mg "value_of" s_value_of ["labels", "name"] f_value_of fd_value_of) {f_considered : Addr} {fd_considered : FuncData} (T_considered : Fn K mg "_considered" s_considered ["must", "matchers"] f_considered fd_considered) : FnOk P w K mg base (L2.CX P w) 4 f_considered fd_considered ["must", "matchers"] (spF w K cm 2 considered_f) := by
  have G_sample_alerts : FnOk P w K mg base (L2.CX P w) 2 f_sample_alerts fd_sample_alerts ["matchers"] (spF w K cm 1 sample_alerts_f) := ok_sample_alerts Bz C_MOST_SAMPLES T_choices T_count T_sample_alerts
  have G_matches_all : FnOk P w K mg base CX0 3 f_matches_all fd_matches_all ["matchers", "labels"] (spF w K cm 2 matches_all_f) := ok_matches_all Bz T_matches T_value_of T_matches_all
  refine mk_okX (k := 3) T_considered.F sc_considered fun cdv A outer s H E hr => ⟨_,
    (pss_one (ps_ret (pe_lc (own := [("labels", 2)]) (g := (gName 2)) (tt := (fun σ H Q => (tCall (spF w K cm 2 matches_all_f) [] E (tCons (tVar 0) (tCons (tVar 2) tNil))) σ H fun x H' => ∃ k, TruV K x H' k ∧ Q k H')) (te := (tVar 2)) rfl sc_considered.nd (pi_seq (pe_call (G_sample_alerts) (hr.mono (by omega)) (by rfl) T_sample_alerts.m T_sample_alerts.F.kp T_sample_alerts.b .nil passX (pa_cons (pe_op o_add (pe_callTy cb_list (by rfl) Bz.list_ (by decide +kernel) (pa_cons (pv 0) pa_nil)) (pv 1)) pa_nil))) (blkOk_by (N := ["must", "matchers", "labels"]) (sc := defScope s_considered) (by decide +kernel)) (fun _ _ _ _ _ => (pg_name (i := 2) sc_considered.nd rfl (.inl rfl))) (fun _ _ _ _ _ => (pts_one (pt_truth (pe_call (G_matches_all) (hr.mono (by omega)) (by rfl) T_matches_all.m T_matches_all.F.kp T_matches_all.b .nil (passE (E := E)) (pa_cons (pv 0) (pa_cons (pv 2) pa_nil))) (fun _ => rfl)))) (fun _ _ _ _ _ => (pv 2))))), ?_⟩
  exact fun ex => (sem_ret (sem_lc (vs := [2]) (sem_seqI (sem_call (sem_conA (sem_bin r2_add (SemE.look (sem_callB c1_list (sem_conB sem_peek sem_nilB))) sem_peek) sem_nilA))) (sem_gName (i := 2)) (sem_tru (SemE.look (sem_call (sem_conA sem_var (sem_conA sem_var sem_nilA))))) sem_var (by decide)))
theorem ok_lineage (Bz : Bl K mg cm A_TooManySamples)  {f_lineage : Addr} {fd_lineage : FuncData} (T_lineage : Fn K mg "_lineage" s_lineage ["routes", "number"] f_lineage fd_lineage) : FnOk P w K mg base CX0 1 f_lineage fd_lineage ["routes", "number"] (spF w K cm 2 lineage_f) := by
  refine mk_ok (k := 0) T_lineage.F sc_lineage fun cdv A outer s H E hr => ⟨_,
    (pss_cons (ps_set (i := 2) sc_lineage.nd rfl (.inl rfl) (pe_lst pa_nil))
    (pss_cons (ps_while PassesOwn.never (pt_cmpR (o_ne hr.units) (pv 1) pe_int (nomark _)) (pss_cons (ps_expr (pe_bm PySem.F.plainAttrs_list PySem.F.slot_list_append PySem.F.type_list_append mt_append (pv 2) (pa_cons (pv 1) pa_nil)))
    (pss_one (ps_set (i := 1) sc_lineage.nd rfl (.inl rfl) (pe_ix ix_seq (pe_ix ix_seq (pv 0) (pv 1) (fun _ _ => rfl)) pe_int (fun _ _ => rfl))))))
    (pss_one (ps_ret (pv 2))))), ?_⟩
  exact fun ex => (sem_seq (sem_set (sem_lst sem_nilA))
    (sem_seq (sem_while (μ := fuel) (sem_tTest (sem_bin r2_ne sem_peek sem_int)) (sem_seq (sem_app (i := 2) sem_var)
    (sem_set (sem_bin r2_ix (SemE.look (sem_bin r2_ix sem_peek sem_peek)) sem_int))))
    (sem_retV (i := 2))))
theorem ok_rivals (Bz : Bl K mg cm A_TooManySamples) {f_lineage : Addr} {fd_lineage : FuncData} (T_lineage : Fn K mg "_lineage" s_lineage ["routes", "number"] f_lineage fd_lineage) {f_rivals : Addr} {fd_rivals : FuncData} (T_rivals : Fn K mg "_rivals" s_rivals ["routes", "number"] f_rivals fd_rivals) : FnOk P w K mg base CX0 2 f_rivals fd_rivals ["routes", "number"] (spF w K cm 2 rivals_f) := by
  have G_lineage : FnOk P w K mg base CX0 1 f_lineage fd_lineage ["routes", "number"] (spF w K cm 2 lineage_f) := ok_lineage Bz  T_lineage
  refine mk_ok (k := 1) T_rivals.F sc_rivals fun cdv A outer s H E hr => ⟨_,
    (pss_cons (ps_set (i := 2) sc_rivals.nd rfl (.inl rfl) (pe_call (G_lineage) (hr.mono (by omega)) (by rfl) T_lineage.m T_lineage.F.kp T_lineage.b .nil (passE (E := E)) (pa_cons (pv 0) (pa_cons (pv 1) pa_nil))))
    (pss_cons (ps_set (i := 3) sc_rivals.nd rfl (.inl rfl) (pe_lst pa_nil))
    (pss_cons (ps_for PassesOwn.never rfl (pi_range2 rfl Bz.range_ (pa_cons pe_int (pa_cons (pe_callB cb_len (by rfl) Bz.len_ (by decide +kernel) (pa_cons (pv 0) pa_nil)) pa_nil))) (pg_name (i := 4) sc_rivals.nd rfl (.inl rfl)) (pss_one (ps_for PassesOwn.never rfl (pi_seq (pv 2)) (pg_name (i := 5) sc_rivals.nd rfl (.inl rfl)) (pss_one (ps_if (PW.pt (pw_and (pt_cmpR o_lt (pv 4) (pv 5) (nomark _)) (pw_and1 (pt_cmpR (o_eq hr.units) (pe_ix ix_seq (pe_ix ix_seq (pv 0) (pv 4) (fun _ _ => rfl)) pe_int (fun _ _ => rfl)) (pe_ix ix_seq (pe_ix ix_seq (pv 0) (pv 5) (fun _ _ => rfl)) pe_int (fun _ _ => rfl)) (nomark _))))) (pss_cons (ps_expr (pe_bm PySem.F.plainAttrs_list PySem.F.slot_list_append PySem.F.type_list_append mt_append (pv 3) (pa_cons (pv 4) pa_nil)))
    (pss_one ps_break)) pss_nil)))))
    (pss_one (ps_ret (pv 3)))))), ?_⟩
  exact fun ex => (sem_seq (sem_set (sem_call (sem_conA sem_var (sem_conA sem_var sem_nilA))))
    (sem_seq (sem_set (sem_lst sem_nilA))
    (sem_seq (sem_for (sem_rng2 (sem_conB sem_int (sem_conB (SemE.look (sem_callB c1_len (sem_conB sem_peek sem_nilB))) sem_nilB))) (sem_gName (i := 4)) (sem_kill (is := [4, 5]) (sem_frz (is := [2]) (sem_for (sem_seqI sem_var) (sem_gName (i := 5)) (sem_kill (is := [5]) (sem_if (sem_and (sem_tTest (sem_bin r2_lt sem_peek sem_peek)) (sem_tTest (sem_bin r2_eq (SemE.look (sem_bin r2_ix (SemE.look (sem_bin r2_ix sem_peek sem_peek)) sem_int)) (SemE.look (sem_bin r2_ix (SemE.look (sem_bin r2_ix sem_peek sem_peek)) sem_int))))) (sem_seq (sem_app (i := 3) sem_var)
    sem_brk) sem_skip))))))
    (sem_retV (i := 3)))))
theorem ok_gets_past (Bz : Bl K mg cm A_TooManySamples) {f_matches_all : Addr} {fd_matches_all : FuncData} (T_matches_all : Fn K mg "matches_all" s_matches_all ["matchers", "labels"] f_matches_all fd_matches_all) {f_matches : Addr} {fd_matches : FuncData} (T_matches : Fn K mg "matches" s_matches ["matcher", "labels"] f_matches fd_matches) {f_value_of : Addr} {fd_value_of : FuncData} (T_value_of : Fn K mg "value_of" s_value_of ["labels", "name"] f_value_of fd_value_of) {f_gets_past : Addr} {fd_gets_past : FuncData} (T_gets_past : Fn K mg "_gets_past" s_gets_past ["routes", "line", "rivals", "labels"] f_gets_past fd_gets_past) : FnOk P w K mg base CX0 4 f_gets_past fd_gets_past ["routes", "line", "rivals", "labels"] (spF w K cm 4 gets_past_f) := by
  have G_matches_all : FnOk P w K mg base CX0 3 f_matches_all fd_matches_all ["matchers", "labels"] (spF w K cm 2 matches_all_f) := ok_matches_all Bz T_matches T_value_of T_matches_all
  refine mk_ok (k := 3) T_gets_past.F sc_gets_past fun cdv A outer s H E hr => ⟨_,
    (pss_cons (ps_for PassesOwn.never rfl (pi_seq (pv 1)) (pg_name (i := 4) sc_gets_past.nd rfl (.inl rfl)) (pss_one (ps_if (pt_not (pt_truth (pe_call (G_matches_all) (hr.mono (by omega)) (by rfl) T_matches_all.m T_matches_all.F.kp T_matches_all.b .nil (passE (E := E)) (pa_cons (pe_ix ix_seq (pe_ix ix_seq (pv 0) (pv 4) (fun _ _ => rfl)) pe_int (fun _ _ => rfl)) (pa_cons (pv 3) pa_nil))) (fun _ => rfl))) (pss_one (ps_ret pe_bl)) pss_nil)))
    (pss_cons (ps_for PassesOwn.never rfl (pi_seq (pv 2)) (pg_name (i := 4) sc_gets_past.nd rfl (.inl rfl)) (pss_one (ps_if (pt_truth (pe_call (G_matches_all) (hr.mono (by omega)) (by rfl) T_matches_all.m T_matches_all.F.kp T_matches_all.b .nil (passE (E := E)) (pa_cons (pe_ix ix_seq (pe_ix ix_seq (pv 0) (pv 4) (fun _ _ => rfl)) pe_int (fun _ _ => rfl)) (pa_cons (pv 3) pa_nil))) (fun _ => rfl)) (pss_one (ps_ret pe_bl)) pss_nil)))
    (pss_one (ps_ret pe_bl)))), ?_⟩
  exact fun ex => (sem_seq (sem_for (sem_seqI sem_var) (sem_gName (i := 4)) (sem_kill (is := [4]) (sem_if (sem_not (sem_tru (SemE.look (sem_call (sem_conA (sem_bin r2_ix (SemE.look (sem_bin r2_ix sem_peek sem_peek)) sem_int) (sem_conA sem_var sem_nilA)))))) (sem_ret sem_bl) sem_skip)))
    (sem_seq (sem_for (sem_seqI sem_var) (sem_gName (i := 4)) (sem_kill (is := [4]) (sem_if (sem_tru (SemE.look (sem_call (sem_conA (sem_bin r2_ix (SemE.look (sem_bin r2_ix sem_peek sem_peek)) sem_int) (sem_conA sem_var sem_nilA))))) (sem_ret sem_bl) sem_skip)))
    (sem_ret sem_bl)))
theorem ok_blockers (Bz : Bl K mg cm A_TooManySamples) {f_lineage : Addr} {fd_lineage : FuncData} (T_lineage : Fn K mg "_lineage" s_lineage ["routes", "number"] f_lineage fd_lineage) {f_rivals : Addr} {fd_rivals : FuncData} (T_rivals : Fn K mg "_rivals" s_rivals ["routes", "number"] f_rivals fd_rivals) {f_gets_past : Addr} {fd_gets_past : FuncData} (T_gets_past : Fn K mg "_gets_past" s_gets_past ["routes", "line", "rivals", "labels"] f_gets_past fd_gets_past) {f_matches_all : Addr} {fd_matches_all : FuncData} (T_matches_all : Fn K mg "matches_all" s_matches_all ["matchers", "labels"] f_matches_all fd_matches_all) {f_matches : Addr} {fd_matches : FuncData} (T_matches : Fn K mg "matches" s_matches ["matcher", "labels"] f_matches fd_matches) {f_value_of : Addr} {fd_value_of : FuncData} (T_value_of : Fn K mg "value_of" s_value_of ["labels", "name"] f_value_of fd_value_of) {f_blockers : Addr} {fd_blockers : FuncData} (T_blockers : Fn K mg "_blockers" s_blockers ["routes", "alerts", "number"] f_blockers fd_blockers) : FnOk P w K mg base CX0 5 f_blockers fd_blockers ["routes", "alerts", "number"] (spF w K cm 3 blockers_f) := by
  have G_lineage : FnOk P w K mg base CX0 1 f_lineage fd_lineage ["routes", "number"] (spF w K cm 2 lineage_f) := ok_lineage Bz  T_lineage
  have G_rivals : FnOk P w K mg base CX0 2 f_rivals fd_rivals ["routes", "number"] (spF w K cm 2 rivals_f) := ok_rivals Bz T_lineage T_rivals
  have G_gets_past : FnOk P w K mg base CX0 4 f_gets_past fd_gets_past ["routes", "line", "rivals", "labels"] (spF w K cm 4 gets_past_f) := ok_gets_past Bz T_matches_all T_matches T_value_of T_gets_past
  refine mk_ok (k := 4) T_blockers.F sc_blockers fun cdv A outer s H E hr => ⟨_,
    (pss_cons (ps_set (i := 3) sc_blockers.nd rfl (.inr rfl) (pe_call (G_lineage) (hr.mono (by omega)) (by rfl) T_lineage.m T_lineage.F.kp T_lineage.b .nil (passE (E := E)) (pa_cons (pv 0) (pa_cons (pv 2) pa_nil))))
    (pss_cons (ps_set (i := 4) sc_blockers.nd rfl (.inl rfl) (pe_call (G_rivals) (hr.mono (by omega)) (by rfl) T_rivals.m T_rivals.F.kp T_rivals.b .nil (passE (E := E)) (pa_cons (pv 0) (pa_cons (pv 2) pa_nil))))
    (pss_cons (ps_for PassesOwn.never rfl (pi_seq (pe_callTy cb_list (by rfl) Bz.list_ (by decide +kernel) (pa_cons (pv 4) pa_nil))) (pg_name (i := 5) sc_blockers.nd rfl (.inr rfl)) (pss_cons (ps_set (i := 6) sc_blockers.nd rfl (.inr rfl) (pe_lc (own := [("other", 7)]) (g := (gName 7)) (tt := (tTest (tOp (rNeA K) (tVar 7) (tVar 5)))) (te := (tVar 7)) rfl sc_blockers.nd (pi_seq (pv 4)) (blkOk_by (N := ["routes", "alerts", "number", "line", "kept", "rival", "fewer", "other", "labels"]) (sc := defScope s_blockers) (by decide +kernel)) (fun _ _ _ _ _ => (pg_name (i := 7) sc_blockers.nd rfl (.inl rfl))) (fun _ _ _ _ _ => (pts_one (pt_cmpR (o_ne hr.units) (pv 7) (pv 5) (nomark _)))) (fun _ _ _ _ _ => (pv 7))))
    (pss_one (ps_if (pt_not (pt_truth (pe_callB (cr_any rfl) (by rfl) Bz.any_ (by decide +kernel) (pa_cons (pe_lc (own := [("labels", 8)]) (g := (gName 8)) (tt := tYes) (te := (tCall (spF w K cm 4 gets_past_f) [] E (tCons (tVar 0) (tCons (tVar 3) (tCons (tVar 6) (tCons (tVar 8) tNil)))))) rfl sc_blockers.nd (pi_seq (pv 1)) (blkOk_by (N := ["routes", "alerts", "number", "line", "kept", "rival", "fewer", "other", "labels"]) (sc := defScope s_blockers) (by decide +kernel)) (fun _ _ _ _ _ => (pg_name (i := 8) sc_blockers.nd rfl (.inl rfl))) (fun _ _ _ _ _ => pts_nil) (fun _ _ _ _ _ => (pe_call (G_gets_past) (hr.mono (by omega)) (by rfl) T_gets_past.m T_gets_past.F.kp T_gets_past.b .nil (passE (E := E)) (pa_cons (pv 0) (pa_cons (pv 3) (pa_cons (pv 6) (pa_cons (pv 8) pa_nil))))))) pa_nil)) (fun _ => rfl))) (pss_one (ps_set (i := 4) sc_blockers.nd rfl (.inl rfl) (pv 6))) pss_nil))))
    (pss_one (ps_ret (pv 4)))))), ?_⟩
  exact fun ex => (sem_seq (sem_set (sem_call (sem_conA sem_var (sem_conA sem_var sem_nilA))))
    (sem_seq (sem_set (sem_call (sem_conA sem_var (sem_conA sem_var sem_nilA))))
    (sem_seq (sem_for (sem_seqI (sem_callB c1_list (sem_conB sem_peek sem_nilB))) (sem_gName (i := 5)) (sem_kill (is := [5, 6]) (sem_seq (sem_frz (is := [4]) (sem_set (sem_lc (vs := [7]) (sem_seqI sem_var) (sem_gName (i := 7)) (sem_tTest (sem_bin r2_ne sem_peek sem_peek)) sem_var (by decide))))
    (sem_frz (is := [3, 6]) (sem_if (sem_not (sem_tru (SemE.look (sem_callB c1_any (sem_conB (SemE.look (sem_lc (vs := [8]) (sem_seqI sem_var) (sem_gName (i := 8)) sem_yes (sem_call (sem_conA sem_var (sem_conA sem_var (sem_conA sem_var (sem_conA sem_var sem_nilA))))) (by decide))) sem_nilB))))) (sem_frz (is := [6]) (sem_set sem_var)) sem_skip)))))
    (sem_retV (i := 4)))))
theorem ok_survey (Bz : Bl K mg cm A_TooManySamples) {t_MOST_SAMPLES : Tok} (C_MOST_SAMPLES : True ∧ mg "MOST_SAMPLES" = some (.int 300 t_MOST_SAMPLES)) {f_considered : Addr} {fd_considered : FuncData} (T_considered : Fn K mg "_considered" s_considered ["must", "matchers"] f_considered fd_considered) {f_sample_alerts : Addr} {fd_sample_alerts : FuncData} (T_sample_alerts : Fn K mg "sample_alerts" s_sample_alerts ["matchers"] f_sample_alerts fd_sample_alerts) {f_choices : Addr} {fd_choices : FuncData} (T_choices : Fn K mg "_choices" s_choices ["matchers", "name"] f_choices fd_choices) {f_count : Addr} {fd_count : FuncData} (T_count : Fn K mg "_count" s_count ["rows"] f_count fd_count) {f_matches_all : Addr} {fd_matches_all : FuncData} (T_matches_all : Fn K mg "matches_all" s_matches_all ["matchers", "labels"] f_matches_all fd_matches_all) {f_matches : Addr} {fd_matches : FuncData} (T_matches : Fn K mg "matches" s_matches ["matcher", "labels"] f_matches fd_matches) {f_value_of : Addr} {fd_value_of : FuncData} (T_value_of : Fn K mg "value_of" s_value_of ["labels", "name"] f_value_of fd_value_of) {f_matchers_of : Addr} {fd_matchers_of : FuncData} (T_matchers_of : Fn K mg "_matchers_of" s_matchers_of ["routes"] f_matchers_of fd_matchers_of) {f_way : Addr} {fd_way : FuncData} (T_way : Fn K mg "way" s_way ["routes", "labels"] f_way fd_way) {f_later : Addr} {fd_later : FuncData} (T_later : Fn K mg "_later" s_later ["routes", "at", "labels"] f_later fd_later) {f_blockers : Addr} {fd_blockers : FuncData} (T_blockers : Fn K mg "_blockers" s_blockers ["routes", "alerts", "number"] f_blockers fd_blockers) {f_lineage : Addr} {fd_lineage : FuncData} (T_lineage : Fn K mg "_lineage" s_lineage ["routes", "number"] f_lineage fd_lineage) {f_rivals : Addr} {fd_rivals : FuncData} (T_rivals : Fn K mg "_rivals" s_rivals ["routes", "number"] f_rivals fd_rivals) {f_gets_past : Addr} {fd_gets_past : FuncData} (T_gets_past : Fn K mg "_gets_past" s_gets_past ["routes", "line", "rivals", "labels"] f_gets_past fd_gets_past) {f_survey : Addr} {fd_survey : FuncData} (T_survey : Fn K mg "survey" s_survey ["routes", "must"] f_survey fd_survey) : FnOk P w K mg base (L2.CX P w) 6 f_survey fd_survey ["routes", "must"] (spF w K cm 2 survey_f) := by
  have G_considered : FnOk P w K mg base (L2.CX P w) 4 f_considered fd_considered ["must", "matchers"] (spF w K cm 2 considered_f) := ok_considered Bz C_MOST_SAMPLES T_sample_alerts T_choices T_count T_matches_all T_matches T_value_of T_considered
  have G_matchers_of : FnOk P w K mg base CX0 1 f_matchers_of fd_matchers_of ["routes"] (spF w K cm 1 matchers_of_f) := ok_matchers_of Bz  T_matchers_of
  have G_way : FnOk P w K mg base CX0 5 f_way fd_way ["routes", "labels"] (spF w K cm 2 way_f) := ok_way Bz T_later T_matches_all T_matches T_value_of T_way
  have G_blockers : FnOk P w K mg base CX0 5 f_blockers fd_blockers ["routes", "alerts", "number"] (spF w K cm 3 blockers_f) := ok_blockers Bz T_lineage T_rivals T_gets_past T_matches_all T_matches T_value_of T_blockers
  refine mk_okX (k := 5) T_survey.F sc_survey fun cdv A outer s H E hr => ⟨_,
    (pss_cons (ps_set (i := 2) sc_survey.nd rfl (.inl rfl) (pe_call (G_considered) (hr.mono (by omega)) (by rfl) T_considered.m T_considered.F.kp T_considered.b .nil passX (pa_cons (pv 1) (pa_cons (pe_call (G_matchers_of) (hr.mono (by omega)) (by rfl) T_matchers_of.m T_matchers_of.F.kp T_matchers_of.b .nil (passE (E := E)) (pa_cons (pv 0) pa_nil)) pa_nil))))
    (pss_cons (ps_setLc (i := 4) (own := [("labels", 3)]) (g := (gName 3)) (tt := tYes) (te := (tCall (spF w K cm 2 way_f) [] E (tCons (tVar 0) (tCons (tVar 3) tNil)))) rfl sc_survey.nd rfl rfl (sw_true rfl rfl rfl (by decide +kernel)) (pi_seq (pv 2)) (blkOk_by (N := ["routes", "must", "alerts", "labels", "ways", "out", "number", "ending", "through", "row", "blockers"]) (sc := defScope s_survey) (by decide +kernel)) (fun _ _ _ _ _ => (pg_name (i := 3) sc_survey.nd rfl (.inl rfl))) (fun _ _ _ _ _ => pts_nil) (fun _ _ _ _ _ => (pe_call (G_way) (hr.mono (by omega)) (by rfl) T_way.m T_way.F.kp T_way.b .nil (passE (E := E)) (pa_cons (pv 0) (pa_cons (pv 3) pa_nil)))))
    (pss_cons (ps_set (i := 5) sc_survey.nd rfl (.inl rfl) (pe_lst pa_nil))
    (pss_cons (ps_for (passes_of rfl) rfl (pi_range1 rfl Bz.range_ (pa_cons (pe_callB cb_len (by rfl) Bz.len_ (by decide +kernel) (pa_cons (pv 0) pa_nil)) pa_nil)) (pg_name (i := 6) sc_survey.nd rfl (.inl rfl)) (pss_cons (ps_set (i := 7) sc_survey.nd rfl (.inl rfl) pe_non)
    (pss_cons (ps_set (i := 8) sc_survey.nd rfl (.inl rfl) pe_non)
    (pss_cons (ps_for (passes_of rfl) rfl (pi_zip rfl Bz.zip_ (pa_cons (pv 2) (pa_cons (pv 4) pa_nil))) (pg_sq (by rfl) (pgs_cons (pg_name (i := 3) sc_survey.nd rfl (.inl rfl)) (pgs_cons (pg_name (i := 9) sc_survey.nd rfl (.inl rfl)) pgs_nil))) (pss_cons (ps_if (PW.pt (pw_and (pt_cmpR op_isN (pv 7) pe_non (nomark _)) (pw_and1 (pt_cmpR (o_eq hr.units) (pe_ix ix_seq (pv 9) (pe_un un_neg pe_int) (fun _ _ => rfl)) (pv 6) (nomark _))))) (pss_one (ps_set (i := 7) sc_survey.nd rfl (.inl rfl) (pv 3))) pss_nil)
    (pss_one (ps_if (PW.pt (pw_and (pt_cmpR op_isN (pv 8) pe_non (nomark _)) (pw_and1 (pt_cmpR (o_in (u65 hr)) (pv 6) (pv 9) (by rfl))))) (pss_one (ps_set (i := 8) sc_survey.nd rfl (.inl rfl) (pv 3))) pss_nil))))
    (pss_cons (ps_set (i := 10) sc_survey.nd rfl (.inl rfl) (pe_lst pa_nil))
    (pss_cons (ps_if (pt_cmpR op_isN (pv 8) pe_non (nomark _)) (pss_one (ps_set (i := 10) sc_survey.nd rfl (.inl rfl) (pe_call (G_blockers) (hr.mono (by omega)) (by rfl) T_blockers.m T_blockers.F.kp T_blockers.b .nil (passE (E := E)) (pa_cons (pv 0) (pa_cons (pv 2) (pa_cons (pv 6) pa_nil)))))) pss_nil)
    (pss_one (ps_expr (pe_bm PySem.F.plainAttrs_list PySem.F.slot_list_append PySem.F.type_list_append mt_append (pv 5) (pa_cons (pe_tup (pa_cons (pv 7) (pa_cons (pv 8) (pa_cons (pv 10) pa_nil)))) pa_nil))))))))))
    (pss_one (ps_ret (pv 5))))))), ?_⟩
  exact fun ex => (sem_seq (sem_set (sem_call (sem_conA sem_var (sem_conA (sem_call (sem_conA sem_var sem_nilA)) sem_nilA))))
    (sem_seq (sem_frz (is := [2]) (sem_set (sem_lc (vs := [3]) (sem_seqI sem_var) (sem_gName (i := 3)) sem_yes (sem_call (sem_conA sem_var (sem_conA sem_var sem_nilA))) (by decide))))
    (sem_seq (sem_set (sem_lst sem_nilA))
    (sem_seq (sem_for (sem_rng1 (sem_conB (SemE.look (sem_callB c1_len (sem_conB sem_peek sem_nilB))) sem_nilB)) (sem_gName (i := 6)) (sem_kill (is := [3, 6, 7, 8, 9, 10]) (sem_seq (sem_set sem_non)
    (sem_seq (sem_set sem_non)
    (sem_seq (sem_frz (is := [2, 4]) (sem_for (sem_zip (sem_conA sem_var (sem_conA sem_var sem_nilA))) (sem_gTup (n := 2) (sem_gsC (sem_gName (i := 3)) (sem_gsC (sem_gName (i := 9)) sem_gsN))) (sem_kill (is := [3, 9]) (sem_seq (sem_if (sem_and (sem_tTest (sem_bin r2_isn sem_peek sem_non)) (sem_tTest (sem_bin r2_eq (SemE.look (sem_bin r2_ix sem_peek (SemE.look (sem_neg sem_int)))) sem_peek))) (sem_set sem_var) sem_skip)
    (sem_if (sem_and (sem_tTest (sem_bin r2_isn sem_peek sem_non)) (sem_tTest (sem_bin r2_in sem_peek sem_peek))) (sem_set sem_var) sem_skip)))))
    (sem_seq (sem_set (sem_lst sem_nilA))
    (sem_seq (sem_if (sem_tTest (sem_bin r2_isn sem_peek sem_non)) (sem_frz (is := [2]) (sem_set (sem_call (sem_conA sem_var (sem_conA sem_var (sem_conA sem_var sem_nilA)))))) sem_skip)
    (sem_frz (is := [10]) (sem_app (i := 5) (sem_tup (sem_conA sem_var (sem_conA sem_var (sem_conA sem_var sem_nilA)))))))))))))
    (sem_retV (i := 5))))))
theorem ok_law_cell (Bz : Bl K mg cm A_TooManySamples)  {f_law_cell : Addr} {fd_law_cell : FuncData} (T_law_cell : Fn K mg "_law_cell" s_law_cell ["_law_script", "_law_k"] f_law_cell fd_law_cell) : FnOk P w K mg base CX0 1 f_law_cell fd_law_cell ["_law_script", "_law_k"] (spF w K cm 2 law_cell_f) := by
  refine mk_ok (k := 0) T_law_cell.F sc_law_cell fun cdv A outer s H E hr => ⟨_,
    (pss_cons (ps_if (pt_cmpR o_lt (pv 1) (pe_callB cb_len (by rfl) Bz.len_ (by decide +kernel) (pa_cons (pv 0) pa_nil)) (nomark _)) (pss_one (ps_ret (pe_callTy cb_int (by rfl) Bz.int_ (by decide +kernel) (pa_cons (pe_ix ix_seq (pv 0) (pv 1) (fun _ _ => rfl)) pa_nil)))) pss_nil)
    (pss_one (ps_ret pe_int))), ?_⟩
  exact fun ex => (sem_seq (sem_if (sem_tTest (sem_bin r2_lt sem_peek (SemE.look (sem_callB c1_len (sem_conB sem_peek sem_nilB))))) (sem_ret (sem_callB c1_int (sem_conB (SemE.look (sem_bin r2_ix sem_peek sem_peek)) sem_nilB))) sem_skip)
    (sem_ret sem_int))
theorem ok_law_draws (Bz : Bl K mg cm A_TooManySamples)  {f_law_draws : Addr} {fd_law_draws : FuncData} (T_law_draws : Fn K mg "_law_draws" s_law_draws ["_law_cell_here", "_law_many"] f_law_draws fd_law_draws) : FnOk P w K mg base CX0 1 f_law_draws fd_law_draws ["_law_cell_here", "_law_many"] (spF w K cm 2 law_draws_f) := by
  refine mk_ok (k := 0) T_law_draws.F sc_law_draws fun cdv A outer s H E hr => ⟨_,
    (pss_cons (ps_set (i := 2) sc_law_draws.nd rfl (.inl rfl) (pe_lst pa_nil))
    (pss_cons (ps_set (i := 3) sc_law_draws.nd rfl (.inl rfl) (pe_callTy cb_int (by rfl) Bz.int_ (by decide +kernel) (pa_cons (pv 0) pa_nil)))
    (pss_cons (ps_if (pt_cmpR o_ge (pv 3) (pe_op op_pow pe_int pe_int) (nomark _)) (pss_one (ps_for PassesOwn.never rfl (pi_range1 rfl Bz.range_ (pa_cons (pv 1) pa_nil)) (pg_name (i := 4) sc_law_draws.nd rfl (.inl rfl)) (pss_one (ps_if (pt_cmpR o_gt (pv 3) pe_int (nomark _)) (pss_cons (ps_expr (pe_bm PySem.F.plainAttrs_list PySem.F.slot_list_append PySem.F.type_list_append mt_append (pv 2) (pa_cons (pe_op op_mod (pe_callTy cb_int (by rfl) Bz.int_ (by decide +kernel) (pa_cons (pv 3) pa_nil)) pe_int) pa_nil)))
    (pss_one (ps_set (i := 3) sc_law_draws.nd rfl (.inl rfl) (pe_op op_fdiv (pv 3) pe_int)))) pss_nil)))) pss_nil)
    (pss_cons (ps_set (i := 5) sc_law_draws.nd rfl (.inl rfl) (pe_op op_mod (pe_callTy cb_int (by rfl) Bz.int_ (by decide +kernel) (pa_cons (pe_op o_add (pe_op o_mul (pe_callTy cb_int (by rfl) Bz.int_ (by decide +kernel) (pa_cons (pv 0) pa_nil)) pe_int) pe_int) pa_nil)) pe_int))
    (pss_cons (ps_for PassesOwn.never rfl (pi_range1 rfl Bz.range_ (pa_cons (pv 1) pa_nil)) (pg_name (i := 4) sc_law_draws.nd rfl (.inl rfl)) (pss_cons (ps_set (i := 5) sc_law_draws.nd rfl (.inl rfl) (pe_op op_mod (pe_callTy cb_int (by rfl) Bz.int_ (by decide +kernel) (pa_cons (pe_op o_add (pe_op o_add (pe_op o_mul (pv 5) pe_int) (pe_op o_mul (pv 4) pe_int)) pe_int) pa_nil)) pe_int))
    (pss_one (ps_if (pt_cmpR o_lt (pe_callB cb_len (by rfl) Bz.len_ (by decide +kernel) (pa_cons (pv 2) pa_nil)) (pv 1) (nomark _)) (pss_one (ps_expr (pe_bm PySem.F.plainAttrs_list PySem.F.slot_list_append PySem.F.type_list_append mt_append (pv 2) (pa_cons (pe_op op_mod (pe_callTy cb_int (by rfl) Bz.int_ (by decide +kernel) (pa_cons (pe_op op_mod (pe_callTy cb_int (by rfl) Bz.int_ (by decide +kernel) (pa_cons (pe_op o_add (pe_op o_mul (pv 5) pe_int) pe_int) pa_nil)) pe_int) pa_nil)) pe_int) pa_nil)))) pss_nil))))
    (pss_one (ps_ret (pv 2)))))))), ?_⟩
  exact fun ex => (sem_seq (sem_set (sem_lst sem_nilA))
    (sem_seq (sem_set (sem_callB c1_int (sem_conB sem_peek sem_nilB)))
    (sem_seq (sem_if (sem_tTest (sem_bin r2_ge sem_peek (SemE.look (sem_bin r2_pow sem_int sem_int)))) (sem_for (sem_rng1 (sem_conB sem_peek sem_nilB)) (sem_gName (i := 4)) (sem_kill (is := [4]) (sem_if (sem_tTest (sem_bin r2_gt sem_peek sem_int)) (sem_seq (sem_app (i := 2) (sem_bin r2_mod (SemE.look (sem_callB c1_int (sem_conB sem_peek sem_nilB))) sem_int))
    (sem_set (sem_bin r2_fdiv sem_peek sem_int))) sem_skip))) sem_skip)
    (sem_seq (sem_set (sem_bin r2_mod (SemE.look (sem_callB c1_int (sem_conB (SemE.look (sem_bin r2_add (SemE.look (sem_bin r2_mulA (SemE.look (sem_callB c1_int (sem_conB sem_peek sem_nilB))) sem_int)) sem_int)) sem_nilB))) sem_int))
    (sem_seq (sem_for (sem_rng1 (sem_conB sem_peek sem_nilB)) (sem_gName (i := 4)) (sem_kill (is := [4]) (sem_seq (sem_set (sem_bin r2_mod (SemE.look (sem_callB c1_int (sem_conB (SemE.look (sem_bin r2_add (SemE.look (sem_bin r2_add (SemE.look (sem_bin r2_mulA sem_peek sem_int)) (SemE.look (sem_bin r2_mulA sem_peek sem_int)))) sem_int)) sem_nilB))) sem_int))
    (sem_if (sem_tTest (sem_bin r2_lt (SemE.look (sem_callB c1_len (sem_conB sem_peek sem_nilB))) sem_peek)) (sem_app (i := 2) (sem_bin r2_mod (SemE.look (sem_callB c1_int (sem_conB (SemE.look (sem_bin r2_mod (SemE.look (sem_callB c1_int (sem_conB (SemE.look (sem_bin r2_add (SemE.look (sem_bin r2_mulA sem_peek sem_int)) sem_int)) sem_nilB))) sem_int)) sem_nilB))) sem_int)) sem_skip))))
    (sem_retV (i := 2)))))))
theorem ok_law_same_r (Bz : Bl K mg cm A_TooManySamples)  {f_law_same : Addr} {fd_law_same : FuncData} (T_law_same : Fn K mg "_law_same" s_law_same ["_law_told", "_law_due"] f_law_same fd_law_same) : ∀ n : Nat, FnOk P w K mg base CX0 (0 + n + 1) f_law_same fd_law_same ["_law_told", "_law_due"] (spF w K cm 2 (law_same_r n))
  | 0 => mk_bad (k := 0) T_law_same.F sc_law_same rfl
  | n + 1 => by

    have G_law_same := ok_law_same_r Bz  T_law_same n
    show FnOk P w K mg base CX0 (0 + n + 1 + 1) f_law_same fd_law_same ["_law_told", "_law_due"] (spF w K cm 2 (runB 2 3 (law_same_b (law_same_r n))))
    refine mk_ok (k := 0 + n + 1) T_law_same.F sc_law_same fun cdv A outer s H E hr => ⟨_,
    (pss_cons (ps_if (pt_cmpR op_isN (pv 1) pe_non (nomark _)) (pss_one (ps_ret (pe_cmpR op_isN (pv 0) pe_non (nomark _)))) pss_nil)
    (pss_cons (ps_if (pt_cmpR op_isB2 (pv 1) pe_bl (nomark _)) (pss_one (ps_ret (pe_cmpR op_isB2 (pv 0) pe_bl (nomark _)))) pss_nil)
    (pss_cons (ps_if (pt_cmpR op_isB2 (pv 1) pe_bl (nomark _)) (pss_one (ps_ret (pe_cmpR op_isB2 (pv 0) pe_bl (nomark _)))) pss_nil)
    (pss_cons (ps_if (pt_truth (pe_callB call_isi (by rfl) Bz.isinstance_ (by decide +kernel) (pa_cons (pv 1) (pa_cons (pe_bltn (v := .ty "int") (by rfl) Bz.int_ (by decide +kernel) rfl) pa_nil))) (fun _ => rfl)) (pss_one (ps_ret (pe_and (pe_callB call_isi (by rfl) Bz.isinstance_ (by decide +kernel) (pa_cons (pv 0) (pa_cons (pe_bltn (v := .ty "int") (by rfl) Bz.int_ (by decide +kernel) rfl) pa_nil))) (pe_and (pe_notT (pe_callB call_isi (by rfl) Bz.isinstance_ (by decide +kernel) (pa_cons (pv 0) (pa_cons (pe_bltn (v := .ty "bool") (by rfl) Bz.bool_ (by decide +kernel) rfl) pa_nil)))) (pe_one (pe_cmpR (o_eq hr.units) (pv 0) (pv 1) (nomark _))))))) pss_nil)
    (pss_cons (ps_if (pt_truth (pe_callB call_isi (by rfl) Bz.isinstance_ (by decide +kernel) (pa_cons (pv 1) (pa_cons (pe_bltn (v := .ty "str") (by rfl) Bz.str_ (by decide +kernel) rfl) pa_nil))) (fun _ => rfl)) (pss_one (ps_ret (pe_and (pe_callB call_isi (by rfl) Bz.isinstance_ (by decide +kernel) (pa_cons (pv 0) (pa_cons (pe_bltn (v := .ty "str") (by rfl) Bz.str_ (by decide +kernel) rfl) pa_nil))) (pe_one (pe_cmpR (o_eq hr.units) (pv 0) (pv 1) (nomark _)))))) pss_nil)
    (pss_cons (ps_if (PW.pt (pw_and (pt_truth (pe_callB call_isi (by rfl) Bz.isinstance_ (by decide +kernel) (pa_cons (pv 1) (pa_cons (pe_bltn (v := .ty "tuple") (by rfl) Bz.tuple_ (by decide +kernel) rfl) pa_nil))) (fun _ => rfl)) (pw_and1 (pt_not (pt_truth (pe_callB call_isi (by rfl) Bz.isinstance_ (by decide +kernel) (pa_cons (pv 0) (pa_cons (pe_bltn (v := .ty "tuple") (by rfl) Bz.tuple_ (by decide +kernel) rfl) pa_nil))) (fun _ => rfl)))))) (pss_one (ps_ret pe_bl)) pss_nil)
    (pss_cons (ps_if (PW.pt (pw_and (pt_truth (pe_callB call_isi (by rfl) Bz.isinstance_ (by decide +kernel) (pa_cons (pv 1) (pa_cons (pe_bltn (v := .ty "list") (by rfl) Bz.list_ (by decide +kernel) rfl) pa_nil))) (fun _ => rfl)) (pw_and1 (pt_not (pt_truth (pe_callB call_isi (by rfl) Bz.isinstance_ (by decide +kernel) (pa_cons (pv 0) (pa_cons (pe_bltn (v := .ty "list") (by rfl) Bz.list_ (by decide +kernel) rfl) pa_nil))) (fun _ => rfl)))))) (pss_one (ps_ret pe_bl)) pss_nil)
    (pss_cons (ps_if (pt_cmpR (o_ne hr.units) (pe_callB cb_len (by rfl) Bz.len_ (by decide +kernel) (pa_cons (pv 0) pa_nil)) (pe_callB cb_len (by rfl) Bz.len_ (by decide +kernel) (pa_cons (pv 1) pa_nil)) (nomark _)) (pss_one (ps_ret pe_bl)) pss_nil)
    (pss_cons (ps_for PassesOwn.never rfl (pi_range1 rfl Bz.range_ (pa_cons (pe_callB cb_len (by rfl) Bz.len_ (by decide +kernel) (pa_cons (pv 1) pa_nil)) pa_nil)) (pg_name (i := 2) sc_law_same.nd rfl (.inl rfl)) (pss_one (ps_if (pt_not (pt_truth (pe_call G_law_same (hr.mono (by omega)) (by rfl) T_law_same.m T_law_same.F.kp T_law_same.b .nil (passE (E := E)) (pa_cons (pe_ix ix_seq (pv 0) (pv 2) (fun _ _ => rfl)) (pa_cons (pe_ix ix_seq (pv 1) (pv 2) (fun _ _ => rfl)) pa_nil))) (fun _ => rfl))) (pss_one (ps_ret pe_bl)) pss_nil)))
    (pss_one (ps_ret pe_bl))))))))))), ?_⟩
    exact fun ex => (sem_seq (sem_if (sem_tTest (sem_bin r2_isn sem_peek sem_non)) (sem_ret (sem_bin r2_isn sem_peek sem_non)) sem_skip)
    (sem_seq (sem_if (sem_tTest (sem_bin r2_isB sem_peek sem_bl)) (sem_ret (sem_bin r2_isB sem_peek sem_bl)) sem_skip)
    (sem_seq (sem_if (sem_tTest (sem_bin r2_isB sem_peek sem_bl)) (sem_ret (sem_bin r2_isB sem_peek sem_bl)) sem_skip)
    (sem_seq (sem_if (sem_tru (SemE.look (sem_isi (T := "int") sem_peek))) (sem_ret (sem_andV (SemE.look (sem_isi (T := "int") sem_peek)) (sem_andV (sem_notN (SemE.look (sem_isi (T := "bool") sem_peek))) (sem_bin r2_eq sem_peek sem_peek)))) sem_skip)
    (sem_seq (sem_if (sem_tru (SemE.look (sem_isi (T := "str") sem_peek))) (sem_ret (sem_andV (SemE.look (sem_isi (T := "str") sem_peek)) (sem_bin r2_eq sem_peek sem_peek))) sem_skip)
    (sem_seq (sem_if (sem_and (sem_tru (SemE.look (sem_isi (T := "tuple") sem_peek))) (sem_not (sem_tru (SemE.look (sem_isi (T := "tuple") sem_peek))))) (sem_ret sem_bl) sem_skip)
    (sem_seq (sem_if (sem_and (sem_tru (SemE.look (sem_isi (T := "list") sem_peek))) (sem_not (sem_tru (SemE.look (sem_isi (T := "list") sem_peek))))) (sem_ret sem_bl) sem_skip)
    (sem_seq (sem_if (sem_tTest (sem_bin r2_ne (SemE.look (sem_callB c1_len (sem_conB sem_peek sem_nilB))) (SemE.look (sem_callB c1_len (sem_conB sem_peek sem_nilB))))) (sem_ret sem_bl) sem_skip)
    (sem_seq (sem_for (sem_rng1 (sem_conB (SemE.look (sem_callB c1_len (sem_conB sem_peek sem_nilB))) sem_nilB)) (sem_gName (i := 2)) (sem_kill (is := [2]) (sem_if (sem_not (sem_tru (SemE.look (sem_call (sem_conA (sem_bin r2_ix sem_peek sem_peek) (sem_conA (sem_bin r2_ix sem_peek sem_peek) sem_nilA)))))) (sem_ret sem_bl) sem_skip)))
    (sem_ret sem_bl))))))))))
theorem ok_law_same (Bz : Bl K mg cm A_TooManySamples)  {f_law_same : Addr} {fd_law_same : FuncData} (T_law_same : Fn K mg "_law_same" s_law_same ["_law_told", "_law_due"] f_law_same fd_law_same) : FnOk P w K mg base CX0 9 f_law_same fd_law_same ["_law_told", "_law_due"] (spF w K cm 2 law_same_f) := by
  exact ok_law_same_r Bz  T_law_same 8
theorem ok_law_words (Bz : Bl K mg cm A_TooManySamples)  {f_law_words : Addr} {fd_law_words : FuncData} (T_law_words : Fn K mg "_law_words" s_law_words ["_law_cell_here", "_law_many"] f_law_words fd_law_words) : FnOk P w K mg base CX0 1 f_law_words fd_law_words ["_law_cell_here", "_law_many"] (spF w K cm 2 law_words_f) := by
  refine mk_ok (k := 0) T_law_words.F sc_law_words fun cdv A outer s H E hr => ⟨_,
    (pss_cons (ps_set (i := 2) sc_law_words.nd rfl (.inr rfl) pe_str)
    (pss_cons (ps_set (i := 3) sc_law_words.nd rfl (.inr rfl) (pe_op op_mod (pe_callTy cb_int (by rfl) Bz.int_ (by decide +kernel) (pa_cons (pe_op op_fdiv (pe_callTy cb_int (by rfl) Bz.int_ (by decide +kernel) (pa_cons (pv 0) pa_nil)) pe_int) pa_nil)) pe_int))
    (pss_one (ps_ret (pe_lc (own := [("_law_k", 4)]) (g := (gName 4)) (tt := tYes) (te := (tOp (rAddA K) (tOp (rAddA K) (tSl (rSl K) (tC (.str "xyz")) tNoPart (tPart (tVar 3))) (tOp (rIx K) (tVar 2) (tOp (rI (fun _ j => 0 < j) fun i j => .int (i % j)) (tCB rInt (tCons (tOp (rAddA K) (tCB rInt (tCons (tVar 0) tNil)) (tOp rMulA (tC (.int 3)) (tVar 4))) tNil)) (tC (.int 26))))) (tSl (rSl K) (tC (.str "xyzw")) (tPart (tVar 3)) tNoPart))) rfl sc_law_words.nd (pi_range1 rfl Bz.range_ (pa_cons (pv 1) pa_nil)) (blkOk_by (N := ["_law_cell_here", "_law_many", "_law_letters", "_law_place", "_law_k"]) (sc := defScope s_law_words) (by decide +kernel)) (fun _ _ _ _ _ => (pg_name (i := 4) sc_law_words.nd rfl (.inl rfl))) (fun _ _ _ _ _ => pts_nil) (fun _ _ _ _ _ => (pe_op o_add (pe_op o_add (pe_slice o_sl pe_str po_none (po_some (pv 3))) (pe_ix ix_seq (pv 2) (pe_op op_mod (pe_callTy cb_int (by rfl) Bz.int_ (by decide +kernel) (pa_cons (pe_op o_add (pe_callTy cb_int (by rfl) Bz.int_ (by decide +kernel) (pa_cons (pv 0) pa_nil)) (pe_op o_mul pe_int (pv 4))) pa_nil)) pe_int) (fun _ _ => rfl))) (pe_slice o_sl pe_str (po_some (pv 3)) po_none)))))))), ?_⟩
  exact fun ex => (sem_seq (sem_set sem_str)
    (sem_seq (sem_set (sem_bin r2_mod (SemE.look (sem_callB c1_int (sem_conB (SemE.look (sem_bin r2_fdiv (SemE.look (sem_callB c1_int (sem_conB sem_peek sem_nilB))) sem_int)) sem_nilB))) sem_int))
    (sem_ret (sem_lc (vs := [4]) (sem_rng1 (sem_conB sem_peek sem_nilB)) (sem_gName (i := 4)) sem_yes (sem_bin r2_add (SemE.look (sem_bin r2_add (SemE.look (sem_slice sem_str sem_noO (sem_someO sem_peek))) (SemE.look (sem_bin r2_ix sem_peek (SemE.look (sem_bin r2_mod (SemE.look (sem_callB c1_int (sem_conB (SemE.look (sem_bin r2_add (SemE.look (sem_callB c1_int (sem_conB sem_peek sem_nilB))) (SemE.look (sem_bin r2_mulA sem_int sem_peek)))) sem_nilB))) sem_int)))))) (SemE.look (sem_slice sem_str (sem_someO sem_peek) sem_noO))) (by decide)))))
theorem ok_law_worths (Bz : Bl K mg cm A_TooManySamples)  {f_law_worths : Addr} {fd_law_worths : FuncData} (T_law_worths : Fn K mg "_law_worths" s_law_worths ["_law_cell_here", "_law_many"] f_law_worths fd_law_worths) : FnOk P w K mg base CX0 1 f_law_worths fd_law_worths ["_law_cell_here", "_law_many"] (spF w K cm 2 law_worths_f) := by
  refine mk_ok (k := 0) T_law_worths.F sc_law_worths fun cdv A outer s H E hr => ⟨_,
    (pss_cons (ps_set (i := 2) sc_law_worths.nd rfl (.inr rfl) pe_str)
    (pss_cons (ps_set (i := 3) sc_law_worths.nd rfl (.inr rfl) (pe_op op_mod (pe_callTy cb_int (by rfl) Bz.int_ (by decide +kernel) (pa_cons (pe_op op_fdiv (pe_callTy cb_int (by rfl) Bz.int_ (by decide +kernel) (pa_cons (pv 0) pa_nil)) pe_int) pa_nil)) pe_int))
    (pss_one (ps_ret (pe_lc (own := [("_law_k", 4)]) (g := (gName 4)) (tt := tYes) (te := (tOp (rAddA K) (tOp (rAddA K) (tSl (rSl K) (tC (.str "v7_")) tNoPart (tPart (tVar 3))) (tOp (rIx K) (tVar 2) (tOp (rI (fun _ j => 0 < j) fun i j => .int (i % j)) (tCB rInt (tCons (tOp (rAddA K) (tCB rInt (tCons (tVar 0) tNil)) (tOp rMulA (tC (.int 5)) (tVar 4))) tNil)) (tC (.int 37))))) (tSl (rSl K) (tC (.str "0_")) (tPart (tVar 3)) tNoPart))) rfl sc_law_worths.nd (pi_range1 rfl Bz.range_ (pa_cons (pv 1) pa_nil)) (blkOk_by (N := ["_law_cell_here", "_law_many", "_law_letters", "_law_place", "_law_k"]) (sc := defScope s_law_worths) (by decide +kernel)) (fun _ _ _ _ _ => (pg_name (i := 4) sc_law_worths.nd rfl (.inl rfl))) (fun _ _ _ _ _ => pts_nil) (fun _ _ _ _ _ => (pe_op o_add (pe_op o_add (pe_slice o_sl pe_str po_none (po_some (pv 3))) (pe_ix ix_seq (pv 2) (pe_op op_mod (pe_callTy cb_int (by rfl) Bz.int_ (by decide +kernel) (pa_cons (pe_op o_add (pe_callTy cb_int (by rfl) Bz.int_ (by decide +kernel) (pa_cons (pv 0) pa_nil)) (pe_op o_mul pe_int (pv 4))) pa_nil)) pe_int) (fun _ _ => rfl))) (pe_slice o_sl pe_str (po_some (pv 3)) po_none)))))))), ?_⟩
  exact fun ex => (sem_seq (sem_set sem_str)
    (sem_seq (sem_set (sem_bin r2_mod (SemE.look (sem_callB c1_int (sem_conB (SemE.look (sem_bin r2_fdiv (SemE.look (sem_callB c1_int (sem_conB sem_peek sem_nilB))) sem_int)) sem_nilB))) sem_int))
    (sem_ret (sem_lc (vs := [4]) (sem_rng1 (sem_conB sem_peek sem_nilB)) (sem_gName (i := 4)) sem_yes (sem_bin r2_add (SemE.look (sem_bin r2_add (SemE.look (sem_slice sem_str sem_noO (sem_someO sem_peek))) (SemE.look (sem_bin r2_ix sem_peek (SemE.look (sem_bin r2_mod (SemE.look (sem_callB c1_int (sem_conB (SemE.look (sem_bin r2_add (SemE.look (sem_callB c1_int (sem_conB sem_peek sem_nilB))) (SemE.look (sem_bin r2_mulA sem_int sem_peek)))) sem_nilB))) sem_int)))))) (SemE.look (sem_slice sem_str (sem_someO sem_peek) sem_noO))) (by decide)))))
theorem ok_law_labels (Bz : Bl K mg cm A_TooManySamples)  {f_law_labels : Addr} {fd_law_labels : FuncData} (T_law_labels : Fn K mg "_law_labels" s_law_labels ["_law_draws_here", "_law_names", "_law_worths_here"] f_law_labels fd_law_labels) : FnOk P w K mg base CX0 1 f_law_labels fd_law_labels ["_law_draws_here", "_law_names", "_law_worths_here"] (spF w K cm 3 law_labels_f) := by
  refine mk_ok (k := 0) T_law_labels.F sc_law_labels fun cdv A outer s H E hr => ⟨_,
    (pss_cons (ps_set (i := 3) sc_law_labels.nd rfl (.inl rfl) (pe_lst pa_nil))
    (pss_cons (ps_set (i := 4) sc_law_labels.nd rfl (.inl rfl) (pe_lst pa_nil))
    (pss_cons (ps_for PassesOwn.never rfl (pi_range3 rfl Bz.range_ (pa_cons pe_int (pa_cons (pe_op op_sub (pe_callB cb_len (by rfl) Bz.len_ (by decide +kernel) (pa_cons (pv 0) pa_nil)) pe_int) (pa_cons pe_int pa_nil)))) (pg_name (i := 5) sc_law_labels.nd rfl (.inl rfl)) (pss_cons (ps_set (i := 6) sc_law_labels.nd rfl (.inl rfl) (pe_ix ix_seq (pv 1) (pe_op op_mod (pe_callTy cb_int (by rfl) Bz.int_ (by decide +kernel) (pa_cons (pe_ix ix_seq (pv 0) (pv 5) (fun _ _ => rfl)) pa_nil)) (pe_callB cb_len (by rfl) Bz.len_ (by decide +kernel) (pa_cons (pv 1) pa_nil))) (fun _ _ => rfl)))
    (pss_one (ps_if (pt_cmpR (o_notin (u65 hr)) (pv 6) (pv 4) (by rfl)) (pss_cons (ps_expr (pe_bm PySem.F.plainAttrs_list PySem.F.slot_list_append PySem.F.type_list_append mt_append (pv 4) (pa_cons (pv 6) pa_nil)))
    (pss_one (ps_expr (pe_bm PySem.F.plainAttrs_list PySem.F.slot_list_append PySem.F.type_list_append mt_append (pv 3) (pa_cons (pe_tup (pa_cons (pv 6) (pa_cons (pe_ix ix_seq (pv 2) (pe_op op_mod (pe_callTy cb_int (by rfl) Bz.int_ (by decide +kernel) (pa_cons (pe_ix ix_seq (pv 0) (pe_op o_add (pv 5) pe_int) (fun _ _ => rfl)) pa_nil)) (pe_callB cb_len (by rfl) Bz.len_ (by decide +kernel) (pa_cons (pv 2) pa_nil))) (fun _ _ => rfl)) pa_nil))) pa_nil))))) pss_nil))))
    (pss_one (ps_ret (pe_callTy cb_tup (by rfl) Bz.tuple_ (by decide +kernel) (pa_cons (pe_callB (cb_sorted (u65 hr)) (by rfl) Bz.sorted_ (by decide +kernel) (pa_cons (pv 3) pa_nil)) pa_nil))))))), ?_⟩
  exact fun ex => (sem_seq (sem_set (sem_lst sem_nilA))
    (sem_seq (sem_set (sem_lst sem_nilA))
    (sem_seq (sem_for (sem_rng3 (sem_conB sem_int (sem_conB (SemE.look (sem_bin r2_sub (SemE.look (sem_callB c1_len (sem_conB sem_peek sem_nilB))) sem_int)) (sem_conB sem_int sem_nilB)))) (sem_gName (i := 5)) (sem_kill (is := [5, 6]) (sem_seq (sem_set (sem_bin r2_ix sem_peek (SemE.look (sem_bin r2_mod (SemE.look (sem_callB c1_int (sem_conB (SemE.look (sem_bin r2_ix sem_peek sem_peek)) sem_nilB))) (SemE.look (sem_callB c1_len (sem_conB sem_peek sem_nilB)))))))
    (sem_if (sem_tTest (sem_bin r2_notin sem_peek sem_peek)) (sem_seq (sem_app (i := 4) sem_var)
    (sem_app (i := 3) (sem_tup (sem_conA sem_var (sem_conA (sem_bin r2_ix sem_peek (SemE.look (sem_bin r2_mod (SemE.look (sem_callB c1_int (sem_conB (SemE.look (sem_bin r2_ix sem_peek (SemE.look (sem_bin r2_add sem_peek sem_int)))) sem_nilB))) (SemE.look (sem_callB c1_len (sem_conB sem_peek sem_nilB)))))) sem_nilA))))) sem_skip))))
    (sem_ret (sem_callB c1_tup (sem_conB (SemE.look (sem_callB c1_sorted (sem_conB sem_peek sem_nilB))) sem_nilB))))))
theorem ok_law_matcher (Bz : Bl K mg cm A_TooManySamples)  {f_law_matcher : Addr} {fd_law_matcher : FuncData} (T_law_matcher : Fn K mg "_law_matcher" s_law_matcher ["_law_first", "_law_second", "_law_names", "_law_worths_here"] f_law_matcher fd_law_matcher) : FnOk P w K mg base CX0 1 f_law_matcher fd_law_matcher ["_law_first", "_law_second", "_law_names", "_law_worths_here"] (spF w K cm 4 law_matcher_f) := by
  refine mk_ok (k := 0) T_law_matcher.F sc_law_matcher fun cdv A outer s H E hr => ⟨_,
    (pss_cons (ps_set (i := 4) sc_law_matcher.nd rfl (.inl rfl) (pe_op o_add (pv 3) (pe_lst (pa_cons pe_str pa_nil))))
    (pss_cons (ps_set (i := 5) sc_law_matcher.nd rfl (.inl rfl) (pe_lst (pa_cons (pe_ix ix_seq (pv 4) (pe_op op_mod (pe_callTy cb_int (by rfl) Bz.int_ (by decide +kernel) (pa_cons (pe_op op_fdiv (pv 0) pe_int) pa_nil)) (pe_callB cb_len (by rfl) Bz.len_ (by decide +kernel) (pa_cons (pv 4) pa_nil))) (fun _ _ => rfl)) pa_nil)))
    (pss_cons (ps_if (pt_cmpR (o_eq hr.units) (pe_op op_mod (pe_callTy cb_int (by rfl) Bz.int_ (by decide +kernel) (pa_cons (pv 1) pa_nil)) pe_int) pe_int (nomark _)) (pss_one (ps_expr (pe_bm PySem.F.plainAttrs_list PySem.F.slot_list_append PySem.F.type_list_append mt_append (pv 5) (pa_cons (pe_ix ix_seq (pv 4) (pe_op op_mod (pe_callTy cb_int (by rfl) Bz.int_ (by decide +kernel) (pa_cons (pe_op op_fdiv (pv 0) pe_int) pa_nil)) (pe_callB cb_len (by rfl) Bz.len_ (by decide +kernel) (pa_cons (pv 4) pa_nil))) (fun _ _ => rfl)) pa_nil)))) pss_nil)
    (pss_one (ps_ret (pe_tup (pa_cons (pe_ix ix_seq (pv 2) (pe_op op_mod (pe_callTy cb_int (by rfl) Bz.int_ (by decide +kernel) (pa_cons (pv 0) pa_nil)) (pe_callB cb_len (by rfl) Bz.len_ (by decide +kernel) (pa_cons (pv 2) pa_nil))) (fun _ _ => rfl)) (pa_cons (pe_callTy cb_tup (by rfl) Bz.tuple_ (by decide +kernel) (pa_cons (pv 5) pa_nil)) (pa_cons (pe_cmpR (o_eq hr.units) (pe_op op_mod (pe_callTy cb_int (by rfl) Bz.int_ (by decide +kernel) (pa_cons (pv 1) pa_nil)) pe_int) pe_int (nomark _)) pa_nil))))))))), ?_⟩
  exact fun ex => (sem_seq (sem_set (sem_bin r2_add sem_peek (SemE.look (sem_lst (sem_conA sem_str sem_nilA)))))
    (sem_seq (sem_set (sem_lst (sem_conA (sem_bin r2_ix sem_peek (SemE.look (sem_bin r2_mod (SemE.look (sem_callB c1_int (sem_conB (SemE.look (sem_bin r2_fdiv sem_peek sem_int)) sem_nilB))) (SemE.look (sem_callB c1_len (sem_conB sem_peek sem_nilB)))))) sem_nilA)))
    (sem_seq (sem_if (sem_tTest (sem_bin r2_eq (SemE.look (sem_bin r2_mod (SemE.look (sem_callB c1_int (sem_conB sem_peek sem_nilB))) sem_int)) sem_int)) (sem_app (i := 5) (sem_bin r2_ix sem_peek (SemE.look (sem_bin r2_mod (SemE.look (sem_callB c1_int (sem_conB (SemE.look (sem_bin r2_fdiv sem_peek sem_int)) sem_nilB))) (SemE.look (sem_callB c1_len (sem_conB sem_peek sem_nilB))))))) sem_skip)
    (sem_ret (sem_tup (sem_conA (sem_bin r2_ix sem_peek (SemE.look (sem_bin r2_mod (SemE.look (sem_callB c1_int (sem_conB sem_peek sem_nilB))) (SemE.look (sem_callB c1_len (sem_conB sem_peek sem_nilB)))))) (sem_conA (sem_callB c1_tup (sem_conB sem_peek sem_nilB)) (sem_conA (sem_bin r2_eq (SemE.look (sem_bin r2_mod (SemE.look (sem_callB c1_int (sem_conB sem_peek sem_nilB))) sem_int)) sem_int) sem_nilA))))))))
theorem ok_law_value (Bz : Bl K mg cm A_TooManySamples)  {f_law_value : Addr} {fd_law_value : FuncData} (T_law_value : Fn K mg "_law_value" s_law_value ["_law_labels_here", "_law_name"] f_law_value fd_law_value) : FnOk P w K mg base CX0 1 f_law_value fd_law_value ["_law_labels_here", "_law_name"] (spF w K cm 2 law_value_f) := by
  refine mk_ok (k := 0) T_law_value.F sc_law_value fun cdv A outer s H E hr => ⟨_,
    (pss_cons (ps_for PassesOwn.never rfl (pi_seq (pv 0)) (pg_name (i := 2) sc_law_value.nd rfl (.inl rfl)) (pss_one (ps_if (pt_cmpR (o_eq hr.units) (pe_ix ix_seq (pv 2) pe_int (fun _ _ => rfl)) (pv 1) (nomark _)) (pss_one (ps_ret (pe_ix ix_seq (pv 2) pe_int (fun _ _ => rfl)))) pss_nil)))
    (pss_one (ps_ret pe_str))), ?_⟩
  exact fun ex => (sem_seq (sem_for (sem_seqI sem_var) (sem_gName (i := 2)) (sem_kill (is := [2]) (sem_if (sem_tTest (sem_bin r2_eq (SemE.look (sem_bin r2_ix sem_peek sem_int)) sem_peek)) (sem_ret (sem_bin r2_ix sem_peek sem_int)) sem_skip)))
    (sem_ret sem_str))
theorem ok_law_matches (Bz : Bl K mg cm A_TooManySamples) {f_law_value : Addr} {fd_law_value : FuncData} (T_law_value : Fn K mg "_law_value" s_law_value ["_law_labels_here", "_law_name"] f_law_value fd_law_value) {f_law_matches : Addr} {fd_law_matches : FuncData} (T_law_matches : Fn K mg "_law_matches" s_law_matches ["_law_matchers", "_law_labels_here"] f_law_matches fd_law_matches) : FnOk P w K mg base CX0 2 f_law_matches fd_law_matches ["_law_matchers", "_law_labels_here"] (spF w K cm 2 law_matches_f) := by
  have G_law_value : FnOk P w K mg base CX0 1 f_law_value fd_law_value ["_law_labels_here", "_law_name"] (spF w K cm 2 law_value_f) := ok_law_value Bz  T_law_value
  refine mk_ok (k := 1) T_law_matches.F sc_law_matches fun cdv A outer s H E hr => ⟨_,
    (pss_cons (ps_for PassesOwn.never rfl (pi_seq (pv 0)) (pg_sq (by rfl) (pgs_cons (pg_name (i := 2) sc_law_matches.nd rfl (.inl rfl)) (pgs_cons (pg_name (i := 3) sc_law_matches.nd rfl (.inl rfl)) (pgs_cons (pg_name (i := 4) sc_law_matches.nd rfl (.inl rfl)) pgs_nil)))) (pss_one (ps_if (pt_cmpR (o_ne hr.units) (pe_cmpR (o_in (u65 hr)) (pe_call (G_law_value) (hr.mono (by omega)) (by rfl) T_law_value.m T_law_value.F.kp T_law_value.b .nil (passE (E := E)) (pa_cons (pv 1) (pa_cons (pv 2) pa_nil))) (pv 3) (by rfl)) (pv 4) (nomark _)) (pss_one (ps_ret pe_bl)) pss_nil)))
    (pss_one (ps_ret pe_bl))), ?_⟩
  exact fun ex => (sem_seq (sem_for (sem_seqI sem_var) (sem_gTup (n := 3) (sem_gsC (sem_gName (i := 2)) (sem_gsC (sem_gName (i := 3)) (sem_gsC (sem_gName (i := 4)) sem_gsN)))) (sem_kill (is := [2, 3, 4]) (sem_if (sem_tTest (sem_bin r2_ne (SemE.look (sem_bin r2_in (SemE.look (sem_call (sem_conA sem_var (sem_conA sem_var sem_nilA)))) sem_peek)) sem_peek)) (sem_ret sem_bl) sem_skip)))
    (sem_ret sem_bl))
theorem ok_law_way (Bz : Bl K mg cm A_TooManySamples) {f_law_matches : Addr} {fd_law_matches : FuncData} (T_law_matches : Fn K mg "_law_matches" s_law_matches ["_law_matchers", "_law_labels_here"] f_law_matches fd_law_matches) {f_law_value : Addr} {fd_law_value : FuncData} (T_law_value : Fn K mg "_law_value" s_law_value ["_law_labels_here", "_law_name"] f_law_value fd_law_value) {f_law_way : Addr} {fd_law_way : FuncData} (T_law_way : Fn K mg "_law_way" s_law_way ["_law_tree_here", "_law_labels_here"] f_law_way fd_law_way) : FnOk P w K mg base CX0 3 f_law_way fd_law_way ["_law_tree_here", "_law_labels_here"] (spF w K cm 2 law_way_f) := by
  have G_law_matches : FnOk P w K mg base CX0 2 f_law_matches fd_law_matches ["_law_matchers", "_law_labels_here"] (spF w K cm 2 law_matches_f) := ok_law_matches Bz T_law_value T_law_matches
  refine mk_ok (k := 2) T_law_way.F sc_law_way fun cdv A outer s H E hr => ⟨_,
    (pss_cons (ps_set (i := 2) sc_law_way.nd rfl (.inl rfl) (pe_lst (pa_cons pe_int pa_nil)))
    (pss_cons (ps_for PassesOwn.never rfl (pi_range1 rfl Bz.range_ (pa_cons (pe_callB cb_len (by rfl) Bz.len_ (by decide +kernel) (pa_cons (pv 0) pa_nil)) pa_nil)) (pg_name (i := 3) sc_law_way.nd rfl (.inl rfl)) (pss_cons (ps_set (i := 4) sc_law_way.nd rfl (.inl rfl) pe_non)
    (pss_cons (ps_for PassesOwn.never rfl (pi_range2 rfl Bz.range_ (pa_cons pe_int (pa_cons (pe_callB cb_len (by rfl) Bz.len_ (by decide +kernel) (pa_cons (pv 0) pa_nil)) pa_nil))) (pg_name (i := 5) sc_law_way.nd rfl (.inl rfl)) (pss_one (ps_if (PW.pt (pw_and (pt_cmpR op_isN (pv 4) pe_non (nomark _)) (pw_and (pt_cmpR (o_eq hr.units) (pe_ix ix_seq (pe_ix ix_seq (pv 0) (pv 5) (fun _ _ => rfl)) pe_int (fun _ _ => rfl)) (pe_ix ix_seq (pv 2) (pe_un un_neg pe_int) (fun _ _ => rfl)) (nomark _)) (pw_and1 (pt_truth (pe_call (G_law_matches) (hr.mono (by omega)) (by rfl) T_law_matches.m T_law_matches.F.kp T_law_matches.b .nil (passE (E := E)) (pa_cons (pe_ix ix_seq (pe_ix ix_seq (pv 0) (pv 5) (fun _ _ => rfl)) pe_int (fun _ _ => rfl)) (pa_cons (pv 1) pa_nil))) (fun _ => rfl)))))) (pss_one (ps_set (i := 4) sc_law_way.nd rfl (.inl rfl) (pv 5))) pss_nil)))
    (pss_one (ps_if (pt_cmpR op_notN (pv 4) pe_non (nomark _)) (pss_one (ps_expr (pe_bm PySem.F.plainAttrs_list PySem.F.slot_list_append PySem.F.type_list_append mt_append (pv 2) (pa_cons (pv 4) pa_nil)))) pss_nil)))))
    (pss_one (ps_ret (pv 2))))), ?_⟩
  exact fun ex => (sem_seq (sem_set (sem_lst (sem_conA sem_int sem_nilA)))
    (sem_seq (sem_for (sem_rng1 (sem_conB (SemE.look (sem_callB c1_len (sem_conB sem_peek sem_nilB))) sem_nilB)) (sem_gName (i := 3)) (sem_kill (is := [3, 4, 5]) (sem_seq (sem_set sem_non)
    (sem_seq (sem_for (sem_rng2 (sem_conB sem_int (sem_conB (SemE.look (sem_callB c1_len (sem_conB sem_peek sem_nilB))) sem_nilB))) (sem_gName (i := 5)) (sem_kill (is := [5]) (sem_if (sem_and (sem_tTest (sem_bin r2_isn sem_peek sem_non)) (sem_and (sem_tTest (sem_bin r2_eq (SemE.look (sem_bin r2_ix (SemE.look (sem_bin r2_ix sem_peek sem_peek)) sem_int)) (SemE.look (sem_bin r2_ix sem_peek (SemE.look (sem_neg sem_int)))))) (sem_tru (SemE.look (sem_call (sem_conA (sem_bin r2_ix (SemE.look (sem_bin r2_ix sem_peek sem_peek)) sem_int) (sem_conA sem_var sem_nilA))))))) (sem_set sem_var) sem_skip)))
    (sem_if (sem_tTest (sem_bin r2_notn sem_peek sem_non)) (sem_app (i := 2) sem_var) sem_skip)))))
    (sem_retV (i := 2))))
theorem ok_law_route (Bz : Bl K mg cm A_TooManySamples) {f_law_draws : Addr} {fd_law_draws : FuncData} (T_law_draws : Fn K mg "_law_draws" s_law_draws ["_law_cell_here", "_law_many"] f_law_draws fd_law_draws) {f_law_matcher : Addr} {fd_law_matcher : FuncData} (T_law_matcher : Fn K mg "_law_matcher" s_law_matcher ["_law_first", "_law_second", "_law_names", "_law_worths_here"] f_law_matcher fd_law_matcher) {f_law_route : Addr} {fd_law_route : FuncData} (T_law_route : Fn K mg "_law_route" s_law_route ["_law_cell_here", "_law_place", "_law_names", "_law_worths_here", "_law_ladders", "_law_shutters"] f_law_route fd_law_route) : FnOk P w K mg base CX0 2 f_law_route fd_law_route ["_law_cell_here", "_law_place", "_law_names", "_law_worths_here", "_law_ladders", "_law_shutters"] (spF w K cm 6 law_route_f) := by
  have G_law_draws : FnOk P w K mg base CX0 1 f_law_draws fd_law_draws ["_law_cell_here", "_law_many"] (spF w K cm 2 law_draws_f) := ok_law_draws Bz  T_law_draws
  have G_law_matcher : FnOk P w K mg base CX0 1 f_law_matcher fd_law_matcher ["_law_first", "_law_second", "_law_names", "_law_worths_here"] (spF w K cm 4 law_matcher_f) := ok_law_matcher Bz  T_law_matcher
  refine mk_ok (k := 1) T_law_route.F sc_law_route fun cdv A outer s H E hr => ⟨_,
    (pss_cons (ps_set (i := 6) sc_law_route.nd rfl (.inr rfl) (pe_call (G_law_draws) (hr.mono (by omega)) (by rfl) T_law_draws.m T_law_draws.F.kp T_law_draws.b .nil (passE (E := E)) (pa_cons (pv 0) (pa_cons pe_int pa_nil))))
    (pss_cons (ps_set (i := 7) sc_law_route.nd rfl (.inl rfl) pe_non)
    (pss_cons (ps_set (i := 8) sc_law_route.nd rfl (.inl rfl) (pe_lst pa_nil))
    (pss_cons (ps_if (pt_cmpR o_gt (pv 1) pe_int (nomark _)) (pss_cons (ps_set (i := 7) sc_law_route.nd rfl (.inl rfl) (pe_op op_mod (pe_callTy cb_int (by rfl) Bz.int_ (by decide +kernel) (pa_cons (pe_ix ix_seq (pv 6) pe_int (fun _ _ => rfl)) pa_nil)) (pv 1)))
    (pss_one (ps_for PassesOwn.never rfl (pi_range1 rfl Bz.range_ (pa_cons (pe_op op_mod (pe_callTy cb_int (by rfl) Bz.int_ (by decide +kernel) (pa_cons (pe_ix ix_seq (pv 6) pe_int (fun _ _ => rfl)) pa_nil)) pe_int) pa_nil)) (pg_name (i := 9) sc_law_route.nd rfl (.inl rfl)) (pss_one (ps_expr (pe_bm PySem.F.plainAttrs_list PySem.F.slot_list_append PySem.F.type_list_append mt_append (pv 8) (pa_cons (pe_call (G_law_matcher) (hr.mono (by omega)) (by rfl) T_law_matcher.m T_law_matcher.F.kp T_law_matcher.b .nil (passE (E := E)) (pa_cons (pe_ix ix_seq (pv 6) (pe_op o_add pe_int (pe_op o_mul pe_int (pv 9))) (fun _ _ => rfl)) (pa_cons (pe_ix ix_seq (pv 6) (pe_op o_add pe_int (pe_op o_mul pe_int (pv 9))) (fun _ _ => rfl)) (pa_cons (pv 2) (pa_cons (pv 3) pa_nil))))) pa_nil))))))) pss_nil)
    (pss_cons (ps_setLc (i := 10) (own := [("_law_k", 9)]) (g := (gName 9)) (tt := tYes) (te := (tOp (rIx K) (tVar 2) (tOp (rI (fun _ j => 0 < j) fun i j => .int (i % j)) (tCB rInt (tCons (tOp (rAddA K) (tOp (rIx K) (tVar 6) (tC (.int 7))) (tVar 9)) tNil)) (tCB (Pl.rLen K) (tCons (tVar 2) tNil))))) rfl sc_law_route.nd rfl rfl (sw_true rfl rfl rfl (by decide +kernel)) (pi_range1 rfl Bz.range_ (pa_cons (pe_op op_mod (pe_callTy cb_int (by rfl) Bz.int_ (by decide +kernel) (pa_cons (pe_ix ix_seq (pv 6) pe_int (fun _ _ => rfl)) pa_nil)) pe_int) pa_nil)) (blkOk_by (N := ["_law_cell_here", "_law_place", "_law_names", "_law_worths_here", "_law_ladders", "_law_shutters", "_law_draws_here", "_law_parent", "_law_matchers", "_law_k", "_law_group", "_law_interval", "_law_again", "_law_mutes", "_law_policy"]) (sc := defScope s_law_route) (by decide +kernel)) (fun _ _ _ _ _ => (pg_name (i := 9) sc_law_route.nd rfl (.inl rfl))) (fun _ _ _ _ _ => pts_nil) (fun _ _ _ _ _ => (pe_ix ix_seq (pv 2) (pe_op op_mod (pe_callTy cb_int (by rfl) Bz.int_ (by decide +kernel) (pa_cons (pe_op o_add (pe_ix ix_seq (pv 6) pe_int (fun _ _ => rfl)) (pv 9)) pa_nil)) (pe_callB cb_len (by rfl) Bz.len_ (by decide +kernel) (pa_cons (pv 2) pa_nil))) (fun _ _ => rfl))))
    (pss_cons (ps_set (i := 11) sc_law_route.nd rfl (.inl rfl) (pe_op o_add pe_int (pe_op op_mod (pe_callTy cb_int (by rfl) Bz.int_ (by decide +kernel) (pa_cons (pe_ix ix_seq (pv 6) pe_int (fun _ _ => rfl)) pa_nil)) pe_int)))
    (pss_cons (ps_set (i := 12) sc_law_route.nd rfl (.inl rfl) (pe_op o_add (pv 11) (pe_op op_mod (pe_callTy cb_int (by rfl) Bz.int_ (by decide +kernel) (pa_cons (pe_ix ix_seq (pv 6) pe_int (fun _ _ => rfl)) pa_nil)) pe_int)))
    (pss_cons (ps_set (i := 13) sc_law_route.nd rfl (.inl rfl) (pe_slice o_sl (pv 5) po_none (po_some (pe_op op_mod (pe_callTy cb_int (by rfl) Bz.int_ (by decide +kernel) (pa_cons (pe_ix ix_seq (pv 6) pe_int (fun _ _ => rfl)) pa_nil)) (pe_op o_add (pe_callB cb_len (by rfl) Bz.len_ (by decide +kernel) (pa_cons (pv 5) pa_nil)) pe_int)))))
    (pss_cons (ps_set (i := 14) sc_law_route.nd rfl (.inl rfl) (pe_ix ix_seq (pv 4) (pe_op op_mod (pe_callTy cb_int (by rfl) Bz.int_ (by decide +kernel) (pa_cons (pe_ix ix_seq (pv 6) pe_int (fun _ _ => rfl)) pa_nil)) (pe_callB cb_len (by rfl) Bz.len_ (by decide +kernel) (pa_cons (pv 4) pa_nil))) (fun _ _ => rfl)))
    (pss_one (ps_ret (pe_tup (pa_cons (pv 7) (pa_cons (pe_callTy cb_tup (by rfl) Bz.tuple_ (by decide +kernel) (pa_cons (pv 8) pa_nil)) (pa_cons (pe_tup (pa_cons (pe_callTy cb_tup (by rfl) Bz.tuple_ (by decide +kernel) (pa_cons (pv 10) pa_nil)) (pa_cons (pe_op op_mod (pe_callTy cb_int (by rfl) Bz.int_ (by decide +kernel) (pa_cons (pe_ix ix_seq (pv 6) pe_int (fun _ _ => rfl)) pa_nil)) pe_int) (pa_cons (pv 11) (pa_cons (pv 12) (pa_cons (pe_callTy cb_tup (by rfl) Bz.tuple_ (by decide +kernel) (pa_cons (pv 13) pa_nil)) (pa_cons (pv 14) pa_nil))))))) pa_nil))))))))))))))), ?_⟩
  exact fun ex => (sem_seq (sem_set (sem_call (sem_conA sem_var (sem_conA sem_int sem_nilA))))
    (sem_seq (sem_set sem_non)
    (sem_seq (sem_set (sem_lst sem_nilA))
    (sem_seq (sem_if (sem_tTest (sem_bin r2_gt sem_peek sem_int)) (sem_seq (sem_set (sem_bin r2_mod (SemE.look (sem_callB c1_int (sem_conB (SemE.look (sem_bin r2_ix sem_peek sem_int)) sem_nilB))) sem_peek))
    (sem_for (sem_rng1 (sem_conB (SemE.look (sem_bin r2_mod (SemE.look (sem_callB c1_int (sem_conB (SemE.look (sem_bin r2_ix sem_peek sem_int)) sem_nilB))) sem_int)) sem_nilB)) (sem_gName (i := 9)) (sem_kill (is := [9]) (sem_app (i := 8) (sem_call (sem_conA (sem_bin r2_ix sem_peek (SemE.look (sem_bin r2_add sem_int (SemE.look (sem_bin r2_mulA sem_int sem_peek))))) (sem_conA (sem_bin r2_ix sem_peek (SemE.look (sem_bin r2_add sem_int (SemE.look (sem_bin r2_mulA sem_int sem_peek))))) (sem_conA sem_var (sem_conA sem_var sem_nilA))))))))) sem_skip)
    (sem_seq (sem_set (sem_lc (vs := [9]) (sem_rng1 (sem_conB (SemE.look (sem_bin r2_mod (SemE.look (sem_callB c1_int (sem_conB (SemE.look (sem_bin r2_ix sem_peek sem_int)) sem_nilB))) sem_int)) sem_nilB)) (sem_gName (i := 9)) sem_yes (sem_bin r2_ix sem_peek (SemE.look (sem_bin r2_mod (SemE.look (sem_callB c1_int (sem_conB (SemE.look (sem_bin r2_add (SemE.look (sem_bin r2_ix sem_peek sem_int)) sem_peek)) sem_nilB))) (SemE.look (sem_callB c1_len (sem_conB sem_peek sem_nilB)))))) (by decide)))
    (sem_seq (sem_set (sem_bin r2_add sem_int (SemE.look (sem_bin r2_mod (SemE.look (sem_callB c1_int (sem_conB (SemE.look (sem_bin r2_ix sem_peek sem_int)) sem_nilB))) sem_int))))
    (sem_seq (sem_set (sem_bin r2_add sem_peek (SemE.look (sem_bin r2_mod (SemE.look (sem_callB c1_int (sem_conB (SemE.look (sem_bin r2_ix sem_peek sem_int)) sem_nilB))) sem_int))))
    (sem_seq (sem_set (sem_slice sem_peek sem_noO (sem_someO (SemE.look (sem_bin r2_mod (SemE.look (sem_callB c1_int (sem_conB (SemE.look (sem_bin r2_ix sem_peek sem_int)) sem_nilB))) (SemE.look (sem_bin r2_add (SemE.look (sem_callB c1_len (sem_conB sem_peek sem_nilB))) sem_int)))))))
    (sem_seq (sem_set (sem_bin r2_ix sem_peek (SemE.look (sem_bin r2_mod (SemE.look (sem_callB c1_int (sem_conB (SemE.look (sem_bin r2_ix sem_peek sem_int)) sem_nilB))) (SemE.look (sem_callB c1_len (sem_conB sem_peek sem_nilB)))))))
    (sem_frz (is := [11, 12]) (sem_ret (sem_tup (sem_conA sem_var (sem_conA (sem_callB c1_tup (sem_conB sem_peek sem_nilB)) (sem_conA (sem_tup (sem_conA (sem_callB c1_tup (sem_conB sem_peek sem_nilB)) (sem_conA (sem_bin r2_mod (SemE.look (sem_callB c1_int (sem_conB (SemE.look (sem_bin r2_ix sem_peek sem_int)) sem_nilB))) sem_int) (sem_conA sem_var (sem_conA sem_var (sem_conA (sem_callB c1_tup (sem_conB sem_peek sem_nilB)) (sem_conA sem_var sem_nilA))))))) sem_nilA)))))))))))))))
theorem ok_law_tree (Bz : Bl K mg cm A_TooManySamples) {f_law_route : Addr} {fd_law_route : FuncData} (T_law_route : Fn K mg "_law_route" s_law_route ["_law_cell_here", "_law_place", "_law_names", "_law_worths_here", "_law_ladders", "_law_shutters"] f_law_route fd_law_route) {f_law_draws : Addr} {fd_law_draws : FuncData} (T_law_draws : Fn K mg "_law_draws" s_law_draws ["_law_cell_here", "_law_many"] f_law_draws fd_law_draws) {f_law_matcher : Addr} {fd_law_matcher : FuncData} (T_law_matcher : Fn K mg "_law_matcher" s_law_matcher ["_law_first", "_law_second", "_law_names", "_law_worths_here"] f_law_matcher fd_law_matcher) {f_law_cell : Addr} {fd_law_cell : FuncData} (T_law_cell : Fn K mg "_law_cell" s_law_cell ["_law_script", "_law_k"] f_law_cell fd_law_cell) {f_law_tree : Addr} {fd_law_tree : FuncData} (T_law_tree : Fn K mg "_law_tree" s_law_tree ["_law_script", "_law_first", "_law_last", "_law_names", "_law_worths_here"] f_law_tree fd_law_tree) : FnOk P w K mg base CX0 3 f_law_tree fd_law_tree ["_law_script", "_law_first", "_law_last", "_law_names", "_law_worths_here"] (spF w K cm 5 law_tree_f) := by
  have G_law_route : FnOk P w K mg base CX0 2 f_law_route fd_law_route ["_law_cell_here", "_law_place", "_law_names", "_law_worths_here", "_law_ladders", "_law_shutters"] (spF w K cm 6 law_route_f) := ok_law_route Bz T_law_draws T_law_matcher T_law_route
  have G_law_cell : FnOk P w K mg base CX0 1 f_law_cell fd_law_cell ["_law_script", "_law_k"] (spF w K cm 2 law_cell_f) := ok_law_cell Bz  T_law_cell
  refine mk_ok (k := 2) T_law_tree.F sc_law_tree fun cdv A outer s H E hr => ⟨_,
    (pss_cons (ps_set (i := 5) sc_law_tree.nd rfl (.inl rfl) (pe_lst pa_nil))
    (pss_cons (ps_for PassesOwn.never rfl (pi_range2 rfl Bz.range_ (pa_cons (pv 1) (pa_cons (pv 2) pa_nil))) (pg_name (i := 6) sc_law_tree.nd rfl (.inl rfl)) (pss_one (ps_if (PW.pt (pw_or (pt_cmpR (o_eq hr.units) (pv 6) (pv 1) (nomark _)) (pw_or1 (pt_cmpR o_lt (pv 6) (pe_callB cb_len (by rfl) Bz.len_ (by decide +kernel) (pa_cons (pv 0) pa_nil)) (nomark _))))) (pss_one (ps_expr (pe_bm PySem.F.plainAttrs_list PySem.F.slot_list_append PySem.F.type_list_append mt_append (pv 5) (pa_cons (pe_call (G_law_route) (hr.mono (by omega)) (by rfl) T_law_route.m T_law_route.F.kp T_law_route.b .nil (passE (E := E)) (pa_cons (pe_call (G_law_cell) (hr.mono (by omega)) (by rfl) T_law_cell.m T_law_cell.F.kp T_law_cell.b .nil (passE (E := E)) (pa_cons (pv 0) (pa_cons (pv 6) pa_nil))) (pa_cons (pe_op op_sub (pv 6) (pv 1)) (pa_cons (pv 3) (pa_cons (pv 4) (pa_cons (pe_lst (pa_cons pe_str (pa_cons pe_str pa_nil))) (pa_cons (pe_lst (pa_cons pe_str (pa_cons pe_str pa_nil))) pa_nil))))))) pa_nil)))) pss_nil)))
    (pss_one (ps_ret (pv 5))))), ?_⟩
  exact fun ex => (sem_seq (sem_set (sem_lst sem_nilA))
    (sem_seq (sem_for (sem_rng2 (sem_conB sem_peek (sem_conB sem_peek sem_nilB))) (sem_gName (i := 6)) (sem_kill (is := [6]) (sem_if (sem_or (sem_tTest (sem_bin r2_eq sem_peek sem_peek)) (sem_tTest (sem_bin r2_lt sem_peek (SemE.look (sem_callB c1_len (sem_conB sem_peek sem_nilB)))))) (sem_app (i := 5) (sem_call (sem_conA (sem_call (sem_conA sem_var (sem_conA sem_var sem_nilA))) (sem_conA (sem_bin r2_sub sem_peek sem_peek) (sem_conA sem_var (sem_conA sem_var (sem_conA (sem_lst (sem_conA sem_str (sem_conA sem_str sem_nilA))) (sem_conA (sem_lst (sem_conA sem_str (sem_conA sem_str sem_nilA))) sem_nilA)))))))) sem_skip)))
    (sem_retV (i := 5))))
theorem ok_law_times (Bz : Bl K mg cm A_TooManySamples)  {f_law_times : Addr} {fd_law_times : FuncData} (T_law_times : Fn K mg "_law_times" s_law_times ["_law_rows", "_law_name", "_law_choices"] f_law_times fd_law_times) : FnOk P w K mg base CX0 1 f_law_times fd_law_times ["_law_rows", "_law_name", "_law_choices"] (spF w K cm 3 law_times_f) := by
  refine mk_ok (k := 0) T_law_times.F sc_law_times fun cdv A outer s H E hr => ⟨_,
    (pss_cons (ps_set (i := 3) sc_law_times.nd rfl (.inl rfl) (pe_lst pa_nil))
    (pss_cons (ps_for PassesOwn.never rfl (pi_seq (pv 0)) (pg_name (i := 4) sc_law_times.nd rfl (.inl rfl)) (pss_one (ps_for PassesOwn.never rfl (pi_seq (pv 2)) (pg_name (i := 5) sc_law_times.nd rfl (.inl rfl)) (pss_one (ps_expr (pe_bm PySem.F.plainAttrs_list PySem.F.slot_list_append PySem.F.type_list_append mt_append (pv 3) (pa_cons (pe_op o_add (pv 4) (pe_tup (pa_cons (pe_tup (pa_cons (pv 1) (pa_cons (pv 5) pa_nil))) pa_nil))) pa_nil)))))))
    (pss_one (ps_ret (pv 3))))), ?_⟩
  exact fun ex => (sem_seq (sem_set (sem_lst sem_nilA))
    (sem_seq (sem_for (sem_seqI sem_var) (sem_gName (i := 4)) (sem_kill (is := [4, 5]) (sem_for (sem_seqI sem_var) (sem_gName (i := 5)) (sem_kill (is := [5]) (sem_app (i := 3) (sem_bin r2_add sem_peek (SemE.look (sem_tup (sem_conA (sem_tup (sem_conA sem_var (sem_conA sem_var sem_nilA))) sem_nilA)))))))))
    (sem_retV (i := 3))))
theorem ok_law_samples (Bz : Bl K mg cm A_TooManySamples) {f_law_times : Addr} {fd_law_times : FuncData} (T_law_times : Fn K mg "_law_times" s_law_times ["_law_rows", "_law_name", "_law_choices"] f_law_times fd_law_times) {f_law_samples : Addr} {fd_law_samples : FuncData} (T_law_samples : Fn K mg "_law_samples" s_law_samples ["_law_matchers"] f_law_samples fd_law_samples) : FnOk P w K mg base CX0 2 f_law_samples fd_law_samples ["_law_matchers"] (spF w K cm 1 law_samples_f) := by
  have G_law_times : FnOk P w K mg base CX0 1 f_law_times fd_law_times ["_law_rows", "_law_name", "_law_choices"] (spF w K cm 3 law_times_f) := ok_law_times Bz  T_law_times
  refine mk_ok (k := 1) T_law_samples.F sc_law_samples fun cdv A outer s H E hr => ⟨_,
    (pss_cons (ps_set (i := 1) sc_law_samples.nd rfl (.inl rfl) (pe_lst pa_nil))
    (pss_cons (ps_for PassesOwn.never rfl (pi_seq (pv 0)) (pg_name (i := 2) sc_law_samples.nd rfl (.inl rfl)) (pss_one (ps_if (pt_cmpR (o_notin (u65 hr)) (pe_ix ix_seq (pv 2) pe_int (fun _ _ => rfl)) (pv 1) (by rfl)) (pss_one (ps_expr (pe_bm PySem.F.plainAttrs_list PySem.F.slot_list_append PySem.F.type_list_append mt_append (pv 1) (pa_cons (pe_ix ix_seq (pv 2) pe_int (fun _ _ => rfl)) pa_nil)))) pss_nil)))
    (pss_cons (ps_set (i := 3) sc_law_samples.nd rfl (.inl rfl) (pe_lst (pa_cons (pe_tup pa_nil) pa_nil)))
    (pss_cons (ps_for PassesOwn.never rfl (pi_seq (pv 1)) (pg_name (i := 4) sc_law_samples.nd rfl (.inl rfl)) (pss_cons (ps_set (i := 5) sc_law_samples.nd rfl (.inr rfl) (pe_lst pa_nil))
    (pss_cons (ps_for PassesOwn.never rfl (pi_seq (pv 0)) (pg_name (i := 2) sc_law_samples.nd rfl (.inl rfl)) (pss_one (ps_if (pt_cmpR (o_eq hr.units) (pe_ix ix_seq (pv 2) pe_int (fun _ _ => rfl)) (pv 4) (nomark _)) (pss_one (ps_set (i := 5) sc_law_samples.nd rfl (.inr rfl) (pe_op o_add (pv 5) (pe_lc (own := [("_law_worth", 11)]) (g := (gName 11)) (tt := (tTest (tOp (rNotInA K) (tVar 11) (tVar 5)))) (te := (tVar 11)) rfl sc_law_samples.nd (pi_seq (pe_ix ix_seq (pv 2) pe_int (fun _ _ => rfl))) (blkOk_by (N := ["_law_matchers", "_law_names", "_law_matcher_here", "_law_rows", "_law_name", "_law_named", "_law_choices", "_law_many", "_law_turn", "_law_pairs", "_law_k", "_law_worth", "_law_pair"]) (sc := defScope s_law_samples) (by decide +kernel)) (fun _ _ _ _ _ => (pg_name (i := 11) sc_law_samples.nd rfl (.inl rfl))) (fun _ _ _ _ _ => (pts_one (pt_cmpR (o_notin (u65 hr)) (pv 11) (pv 5) (by rfl)))) (fun _ _ _ _ _ => (pv 11)))))) pss_nil)))
    (pss_cons (ps_set (i := 6) sc_law_samples.nd rfl (.inl rfl) (pe_op o_add (pe_lst (pa_cons pe_str pa_nil)) (pe_lc (own := [("_law_k", 10), ("_law_worth", 11)]) (g := (gSq K 2 (gCons (gName 10) (gCons (gName 11) gNil)))) (tt := (tAnd (tTest (tOp (rNeA K) (tVar 11) (tC (.str "")))) (tTest (tOp (rNotInA K) (tVar 11) (tSl (rSl K) (tVar 5) tNoPart (tPart (tVar 10))))))) (te := (tVar 11)) rfl sc_law_samples.nd (pi_enumA rfl Bz.enumerate_ (pa_cons (pv 5) pa_nil)) (blkOk_by (N := ["_law_matchers", "_law_names", "_law_matcher_here", "_law_rows", "_law_name", "_law_named", "_law_choices", "_law_many", "_law_turn", "_law_pairs", "_law_k", "_law_worth", "_law_pair"]) (sc := defScope s_law_samples) (by decide +kernel)) (fun _ _ _ _ _ => (pg_sq (by rfl) (pgs_cons (pg_name (i := 10) sc_law_samples.nd rfl (.inl rfl)) (pgs_cons (pg_name (i := 11) sc_law_samples.nd rfl (.inl rfl)) pgs_nil)))) (fun _ _ _ _ _ => (pts_one (PW.pt (pw_and (pt_cmpR (o_ne hr.units) (pv 11) pe_str (nomark _)) (pw_and1 (pt_cmpR (o_notin (u65 hr)) (pv 11) (pe_slice o_sl (pv 5) po_none (po_some (pv 10))) (by rfl))))))) (fun _ _ _ _ _ => (pv 11)))))
    (pss_cons (ps_if (pt_cmpR (o_in (u65 hr)) pe_str (pv 5) (by rfl)) (pss_cons (ps_set (i := 7) sc_law_samples.nd rfl (.inl rfl) pe_int)
    (pss_cons (ps_for PassesOwn.never rfl (pi_range1 rfl Bz.range_ (pa_cons (pe_op o_add (pe_callB cb_len (by rfl) Bz.len_ (by decide +kernel) (pa_cons (pv 5) pa_nil)) pe_int) pa_nil)) (pg_name (i := 8) sc_law_samples.nd rfl (.inl rfl)) (pss_one (ps_if (pt_cmpR (o_in (u65 hr)) (pe_op o_mul pe_str (pv 7)) (pv 5) (by rfl)) (pss_one (ps_set (i := 7) sc_law_samples.nd rfl (.inl rfl) (pe_op o_add (pv 7) pe_int))) pss_nil)))
    (pss_one (ps_expr (pe_bm PySem.F.plainAttrs_list PySem.F.slot_list_append PySem.F.type_list_append mt_append (pv 6) (pa_cons (pe_op o_mul pe_str (pv 7)) pa_nil)))))) pss_nil)
    (pss_cons (ps_if (pt_cmpR o_gt (pe_op o_mul (pe_callB cb_len (by rfl) Bz.len_ (by decide +kernel) (pa_cons (pv 3) pa_nil)) (pe_callB cb_len (by rfl) Bz.len_ (by decide +kernel) (pa_cons (pv 6) pa_nil))) pe_int (nomark _)) (pss_one (ps_ret pe_non)) pss_nil)
    (pss_one (ps_set (i := 3) sc_law_samples.nd rfl (.inl rfl) (pe_call (G_law_times) (hr.mono (by omega)) (by rfl) T_law_times.m T_law_times.F.kp T_law_times.b .nil (passE (E := E)) (pa_cons (pv 3) (pa_cons (pv 4) (pa_cons (pv 6) pa_nil))))))))))))
    (pss_one (ps_ret (pe_lc (own := [("_law_pairs", 9)]) (g := (gName 9)) (tt := tYes) (te := (tCB (rTupl K) (tCons (tCB (rSortD K) (tCons (tLc (iSeq K (tVar 9)) (gName 12) (tTest (tOp (rNeA K) (tOp (rIx K) (tVar 12) (tC (.int 1))) (tC (.str "")))) (tVar 12) [12]) tNil)) tNil))) rfl sc_law_samples.nd (pi_seq (pv 3)) (blkOk_by (N := ["_law_matchers", "_law_names", "_law_matcher_here", "_law_rows", "_law_name", "_law_named", "_law_choices", "_law_many", "_law_turn", "_law_pairs", "_law_k", "_law_worth", "_law_pair"]) (sc := defScope s_law_samples) (by decide +kernel)) (fun _ _ _ _ _ => (pg_name (i := 9) sc_law_samples.nd rfl (.inl rfl))) (fun _ _ _ _ _ => pts_nil) (fun _ _ _ _ _ => (pe_callTy cb_tup (by rfl) Bz.tuple_ (by decide +kernel) (pa_cons (pe_callB (cb_sorted (u65 hr)) (by rfl) Bz.sorted_ (by decide +kernel) (pa_cons (pe_lc (own := [("_law_pair", 12)]) (g := (gName 12)) (tt := (tTest (tOp (rNeA K) (tOp (rIx K) (tVar 12) (tC (.int 1))) (tC (.str ""))))) (te := (tVar 12)) rfl sc_law_samples.nd (pi_seq (pv 9)) (blkOk_by (N := ["_law_matchers", "_law_names", "_law_matcher_here", "_law_rows", "_law_name", "_law_named", "_law_choices", "_law_many", "_law_turn", "_law_pairs", "_law_k", "_law_worth", "_law_pair"]) (sc := ({ kind := PySem.ScopeKind.function, names := [ (PySem.Str.ofString ".0", PySem.NameKind.local), (PySem.Str.ofString "_law_pairs", PySem.NameKind.local), (PySem.Str.ofString "tuple", PySem.NameKind.globalImplicit), (PySem.Str.ofString "sorted", PySem.NameKind.globalImplicit)], isGenerator := false, isCoroutine := false, more := [] : PySem.Scope } : Scope)) (by decide +kernel)) (fun _ _ _ _ _ => (pg_name (i := 12) sc_law_samples.nd rfl (.inl rfl))) (fun _ _ _ _ _ => (pts_one (pt_cmpR (o_ne hr.units) (pe_ix ix_seq (pv 12) pe_int (fun _ _ => rfl)) pe_str (nomark _)))) (fun _ _ _ _ _ => (pv 12))) pa_nil)) pa_nil)))))))))), ?_⟩
  exact fun ex => (sem_seq (sem_set (sem_lst sem_nilA))
    (sem_seq (sem_for (sem_seqI sem_var) (sem_gName (i := 2)) (sem_kill (is := [2]) (sem_if (sem_tTest (sem_bin r2_notin (SemE.look (sem_bin r2_ix sem_peek sem_int)) sem_peek)) (sem_app (i := 1) (sem_bin r2_ix sem_peek sem_int)) sem_skip)))
    (sem_seq (sem_set (sem_lst (sem_conA (sem_tup sem_nilA) sem_nilA)))
    (sem_seq (sem_frz (is := [1]) (sem_for (sem_seqI sem_var) (sem_gName (i := 4)) (sem_kill (is := [2, 4, 5, 6, 7, 8]) (sem_seq (sem_set (sem_lst sem_nilA))
    (sem_seq (sem_for (sem_seqI sem_var) (sem_gName (i := 2)) (sem_kill (is := [2]) (sem_if (sem_tTest (sem_bin r2_eq (SemE.look (sem_bin r2_ix sem_peek sem_int)) sem_peek)) (sem_set (sem_bin r2_add sem_peek (SemE.look (sem_lc (vs := [11]) (sem_seqI (sem_bin r2_ix sem_peek sem_int)) (sem_gName (i := 11)) (sem_tTest (sem_bin r2_notin sem_peek sem_peek)) sem_var (by decide))))) sem_skip)))
    (sem_seq (sem_frz (is := [5]) (sem_set (sem_bin r2_add (SemE.look (sem_lst (sem_conA sem_str sem_nilA))) (SemE.look (sem_lc (vs := [10, 11]) (sem_enum sem_var) (sem_gTup (n := 2) (sem_gsC (sem_gName (i := 10)) (sem_gsC (sem_gName (i := 11)) sem_gsN))) (sem_and (sem_tTest (sem_bin r2_ne sem_peek sem_str)) (sem_tTest (sem_bin r2_notin sem_peek (SemE.look (sem_slice sem_peek sem_noO (sem_someO sem_peek)))))) sem_var (by decide))))))
    (sem_seq (sem_if (sem_tTest (sem_bin r2_in sem_str sem_peek)) (sem_seq (sem_set sem_int)
    (sem_seq (sem_for (sem_rng1 (sem_conB (SemE.look (sem_bin r2_add (SemE.look (sem_callB c1_len (sem_conB sem_peek sem_nilB))) sem_int)) sem_nilB)) (sem_gName (i := 8)) (sem_kill (is := [8]) (sem_if (sem_tTest (sem_bin r2_in (SemE.look (sem_bin r2_mulA sem_str sem_peek)) sem_peek)) (sem_set (sem_bin r2_add sem_peek sem_int)) sem_skip)))
    (sem_app (i := 6) (sem_bin r2_mulA sem_str sem_peek)))) sem_skip)
    (sem_seq (sem_if (sem_tTest (sem_bin r2_gt (SemE.look (sem_bin r2_mulA (SemE.look (sem_callB c1_len (sem_conB sem_peek sem_nilB))) (SemE.look (sem_callB c1_len (sem_conB sem_peek sem_nilB))))) sem_int)) (sem_ret sem_non) sem_skip)
    (sem_frz (is := [3, 6]) (sem_set (sem_call (sem_conA sem_var (sem_conA sem_var (sem_conA sem_var sem_nilA))))))))))))))
    (sem_frz (is := [3]) (sem_ret (sem_lc (vs := [9]) (sem_seqI sem_var) (sem_gName (i := 9)) sem_yes (sem_callB c1_tup (sem_conB (SemE.look (sem_callB c1_sorted (sem_conB (SemE.look (sem_lc (vs := [12]) (sem_seqI sem_var) (sem_gName (i := 12)) (sem_tTest (sem_bin r2_ne (SemE.look (sem_bin r2_ix sem_peek sem_int)) sem_str)) sem_var (by decide))) sem_nilB))) sem_nilB)) (by decide))))))))
theorem ok_law_case (Bz : Bl K mg cm A_TooManySamples) {f_law_words : Addr} {fd_law_words : FuncData} (T_law_words : Fn K mg "_law_words" s_law_words ["_law_cell_here", "_law_many"] f_law_words fd_law_words) {f_law_cell : Addr} {fd_law_cell : FuncData} (T_law_cell : Fn K mg "_law_cell" s_law_cell ["_law_script", "_law_k"] f_law_cell fd_law_cell) {f_law_worths : Addr} {fd_law_worths : FuncData} (T_law_worths : Fn K mg "_law_worths" s_law_worths ["_law_cell_here", "_law_many"] f_law_worths fd_law_worths) {f_law_tree : Addr} {fd_law_tree : FuncData} (T_law_tree : Fn K mg "_law_tree" s_law_tree ["_law_script", "_law_first", "_law_last", "_law_names", "_law_worths_here"] f_law_tree fd_law_tree) {f_law_route : Addr} {fd_law_route : FuncData} (T_law_route : Fn K mg "_law_route" s_law_route ["_law_cell_here", "_law_place", "_law_names", "_law_worths_here", "_law_ladders", "_law_shutters"] f_law_route fd_law_route) {f_law_draws : Addr} {fd_law_draws : FuncData} (T_law_draws : Fn K mg "_law_draws" s_law_draws ["_law_cell_here", "_law_many"] f_law_draws fd_law_draws) {f_law_matcher : Addr} {fd_law_matcher : FuncData} (T_law_matcher : Fn K mg "_law_matcher" s_law_matcher ["_law_first", "_law_second", "_law_names", "_law_worths_here"] f_law_matcher fd_law_matcher) {f_law_samples : Addr} {fd_law_samples : FuncData} (T_law_samples : Fn K mg "_law_samples" s_law_samples ["_law_matchers"] f_law_samples fd_law_samples) {f_law_times : Addr} {fd_law_times : FuncData} (T_law_times : Fn K mg "_law_times" s_law_times ["_law_rows", "_law_name", "_law_choices"] f_law_times fd_law_times) {f_law_matches : Addr} {fd_law_matches : FuncData} (T_law_matches : Fn K mg "_law_matches" s_law_matches ["_law_matchers", "_law_labels_here"] f_law_matches fd_law_matches) {f_law_value : Addr} {fd_law_value : FuncData} (T_law_value : Fn K mg "_law_value" s_law_value ["_law_labels_here", "_law_name"] f_law_value fd_law_value) {f_law_case : Addr} {fd_law_case : FuncData} (T_law_case : Fn K mg "_law_case" s_law_case ["_law_script"] f_law_case fd_law_case) : FnOk P w K mg base CX0 4 f_law_case fd_law_case ["_law_script"] (spF w K cm 1 law_case_f) := by
  have G_law_words : FnOk P w K mg base CX0 1 f_law_words fd_law_words ["_law_cell_here", "_law_many"] (spF w K cm 2 law_words_f) := ok_law_words Bz  T_law_words
  have G_law_cell : FnOk P w K mg base CX0 1 f_law_cell fd_law_cell ["_law_script", "_law_k"] (spF w K cm 2 law_cell_f) := ok_law_cell Bz  T_law_cell
  have G_law_worths : FnOk P w K mg base CX0 1 f_law_worths fd_law_worths ["_law_cell_here", "_law_many"] (spF w K cm 2 law_worths_f) := ok_law_worths Bz  T_law_worths
  have G_law_tree : FnOk P w K mg base CX0 3 f_law_tree fd_law_tree ["_law_script", "_law_first", "_law_last", "_law_names", "_law_worths_here"] (spF w K cm 5 law_tree_f) := ok_law_tree Bz T_law_route T_law_draws T_law_matcher T_law_cell T_law_tree
  have G_law_draws : FnOk P w K mg base CX0 1 f_law_draws fd_law_draws ["_law_cell_here", "_law_many"] (spF w K cm 2 law_draws_f) := ok_law_draws Bz  T_law_draws
  have G_law_matcher : FnOk P w K mg base CX0 1 f_law_matcher fd_law_matcher ["_law_first", "_law_second", "_law_names", "_law_worths_here"] (spF w K cm 4 law_matcher_f) := ok_law_matcher Bz  T_law_matcher
  have G_law_samples : FnOk P w K mg base CX0 2 f_law_samples fd_law_samples ["_law_matchers"] (spF w K cm 1 law_samples_f) := ok_law_samples Bz T_law_times T_law_samples
  have G_law_matches : FnOk P w K mg base CX0 2 f_law_matches fd_law_matches ["_law_matchers", "_law_labels_here"] (spF w K cm 2 law_matches_f) := ok_law_matches Bz T_law_value T_law_matches
  refine mk_ok (k := 3) T_law_case.F sc_law_case fun cdv A outer s H E hr => ⟨_,
    (pss_cons (ps_set (i := 1) sc_law_case.nd rfl (.inr rfl) (pe_call (G_law_words) (hr.mono (by omega)) (by rfl) T_law_words.m T_law_words.F.kp T_law_words.b .nil (passE (E := E)) (pa_cons (pe_call (G_law_cell) (hr.mono (by omega)) (by rfl) T_law_cell.m T_law_cell.F.kp T_law_cell.b .nil (passE (E := E)) (pa_cons (pv 0) (pa_cons pe_int pa_nil))) (pa_cons pe_int pa_nil))))
    (pss_cons (ps_set (i := 2) sc_law_case.nd rfl (.inr rfl) (pe_call (G_law_worths) (hr.mono (by omega)) (by rfl) T_law_worths.m T_law_worths.F.kp T_law_worths.b .nil (passE (E := E)) (pa_cons (pe_call (G_law_cell) (hr.mono (by omega)) (by rfl) T_law_cell.m T_law_cell.F.kp T_law_cell.b .nil (passE (E := E)) (pa_cons (pv 0) (pa_cons pe_int pa_nil))) (pa_cons pe_int pa_nil))))
    (pss_cons (ps_set (i := 3) sc_law_case.nd rfl (.inl rfl) (pe_call (G_law_tree) (hr.mono (by omega)) (by rfl) T_law_tree.m T_law_tree.F.kp T_law_tree.b .nil (passE (E := E)) (pa_cons (pv 0) (pa_cons pe_int (pa_cons (pe_op o_add pe_int (pe_op op_mod (pe_call (G_law_cell) (hr.mono (by omega)) (by rfl) T_law_cell.m T_law_cell.F.kp T_law_cell.b .nil (passE (E := E)) (pa_cons (pv 0) (pa_cons pe_int pa_nil))) pe_int)) (pa_cons (pv 1) (pa_cons (pv 2) pa_nil)))))))
    (pss_cons (ps_if (pt_cmpR (o_eq hr.units) (pe_op op_mod (pe_call (G_law_cell) (hr.mono (by omega)) (by rfl) T_law_cell.m T_law_cell.F.kp T_law_cell.b .nil (passE (E := E)) (pa_cons (pv 0) (pa_cons pe_int pa_nil))) pe_int) pe_int (nomark _)) (pss_one (ps_for PassesOwn.never rfl (pi_range2 rfl Bz.range_ (pa_cons pe_int (pa_cons (pe_callB cb_len (by rfl) Bz.len_ (by decide +kernel) (pa_cons (pv 3) pa_nil)) pa_nil))) (pg_name (i := 4) sc_law_case.nd rfl (.inl rfl)) (pss_one (ps_if (pt_cmpR (o_eq hr.units) (pe_op op_mod (pv 4) pe_int) pe_int (nomark _)) (pss_one (ps_asg (pe_tup (pa_cons (pe_ix ix_seq (pe_ix ix_seq (pv 3) (pe_op op_sub (pv 4) pe_int) (fun _ _ => rfl)) pe_int (fun _ _ => rfl)) (pa_cons (pe_op o_add (pe_ix ix_seq (pe_ix ix_seq (pv 3) (pe_op op_sub (pv 4) pe_int) (fun _ _ => rfl)) pe_int (fun _ _ => rfl)) (pe_slice o_sl (pe_ix ix_seq (pe_ix ix_seq (pv 3) (pv 4) (fun _ _ => rfl)) pe_int (fun _ _ => rfl)) po_none (po_some pe_int))) (pa_cons (pe_ix ix_seq (pe_ix ix_seq (pv 3) (pv 4) (fun _ _ => rfl)) pe_int (fun _ _ => rfl)) pa_nil)))) (pg_sub (pv 3) (pv 4) set_list))) pss_nil)))) pss_nil)
    (pss_cons (ps_set (i := 5) sc_law_case.nd rfl (.inr rfl) (pe_call (G_law_draws) (hr.mono (by omega)) (by rfl) T_law_draws.m T_law_draws.F.kp T_law_draws.b .nil (passE (E := E)) (pa_cons (pe_call (G_law_cell) (hr.mono (by omega)) (by rfl) T_law_cell.m T_law_cell.F.kp T_law_cell.b .nil (passE (E := E)) (pa_cons (pv 0) (pa_cons pe_int pa_nil))) (pa_cons pe_int pa_nil))))
    (pss_cons (ps_set (i := 6) sc_law_case.nd rfl (.inr rfl) (pe_lc (own := [("_law_k", 4)]) (g := (gName 4)) (tt := tYes) (te := (tCall (spF w K cm 4 law_matcher_f) [] E (tCons (tOp (rIx K) (tVar 5) (tOp rMulA (tC (.int 2)) (tVar 4))) (tCons (tOp (rIx K) (tVar 5) (tOp (rAddA K) (tOp rMulA (tC (.int 2)) (tVar 4)) (tC (.int 1)))) (tCons (tVar 1) (tCons (tVar 2) tNil)))))) rfl sc_law_case.nd (pi_range1 rfl Bz.range_ (pa_cons (pe_op op_mod (pe_callTy cb_int (by rfl) Bz.int_ (by decide +kernel) (pa_cons (pe_ix ix_seq (pv 5) pe_int (fun _ _ => rfl)) pa_nil)) pe_int) pa_nil)) (blkOk_by (N := ["_law_script", "_law_names", "_law_worths_here", "_law_tree_here", "_law_k", "_law_draws_here", "_law_must", "_law_rows", "_law_parent", "_law_matchers", "_law_settings", "_law_found", "_law_labels_here"]) (sc := defScope s_law_case) (by decide +kernel)) (fun _ _ _ _ _ => (pg_name (i := 4) sc_law_case.nd rfl (.inl rfl))) (fun _ _ _ _ _ => pts_nil) (fun _ _ _ _ _ => (pe_call (G_law_matcher) (hr.mono (by omega)) (by rfl) T_law_matcher.m T_law_matcher.F.kp T_law_matcher.b .nil (passE (E := E)) (pa_cons (pe_ix ix_seq (pv 5) (pe_op o_mul pe_int (pv 4)) (fun _ _ => rfl)) (pa_cons (pe_ix ix_seq (pv 5) (pe_op o_add (pe_op o_mul pe_int (pv 4)) pe_int) (fun _ _ => rfl)) (pa_cons (pv 1) (pa_cons (pv 2) pa_nil))))))))
    (pss_cons (ps_set (i := 7) sc_law_case.nd rfl (.inl rfl) (pe_callTy cb_list (by rfl) Bz.list_ (by decide +kernel) (pa_cons (pv 6) pa_nil)))
    (pss_cons (ps_for PassesOwn.never rfl (pi_seq (pv 3)) (pg_sq (by rfl) (pgs_cons (pg_name (i := 8) sc_law_case.nd rfl (.inl rfl)) (pgs_cons (pg_name (i := 9) sc_law_case.nd rfl (.inl rfl)) (pgs_cons (pg_name (i := 10) sc_law_case.nd rfl (.inl rfl)) pgs_nil)))) (pss_one (ps_set (i := 7) sc_law_case.nd rfl (.inl rfl) (pe_op o_add (pv 7) (pe_callTy cb_list (by rfl) Bz.list_ (by decide +kernel) (pa_cons (pv 9) pa_nil))))))
    (pss_cons (ps_set (i := 11) sc_law_case.nd rfl (.inl rfl) (pe_call (G_law_samples) (hr.mono (by omega)) (by rfl) T_law_samples.m T_law_samples.F.kp T_law_samples.b .nil (passE (E := E)) (pa_cons (pv 7) pa_nil)))
    (pss_cons (ps_if (pt_cmpR op_notN (pv 11) pe_non (nomark _)) (pss_one (ps_setLc (i := 11) (own := [("_law_labels_here", 12)]) (g := (gName 12)) (tt := (fun σ H Q => (tCall (spF w K cm 2 law_matches_f) [] E (tCons (tVar 6) (tCons (tVar 12) tNil))) σ H fun x H' => ∃ k, TruV K x H' k ∧ Q k H')) (te := (tVar 12)) rfl sc_law_case.nd rfl rfl (sw_true rfl rfl rfl (by decide +kernel)) (pi_seq (pv 11)) (blkOk_by (N := ["_law_script", "_law_names", "_law_worths_here", "_law_tree_here", "_law_k", "_law_draws_here", "_law_must", "_law_rows", "_law_parent", "_law_matchers", "_law_settings", "_law_found", "_law_labels_here"]) (sc := defScope s_law_case) (by decide +kernel)) (fun _ _ _ _ _ => (pg_name (i := 12) sc_law_case.nd rfl (.inl rfl))) (fun _ _ _ _ _ => (pts_one (pt_truth (pe_call (G_law_matches) (hr.mono (by omega)) (by rfl) T_law_matches.m T_law_matches.F.kp T_law_matches.b .nil (passE (E := E)) (pa_cons (pv 6) (pa_cons (pv 12) pa_nil))) (fun _ => rfl)))) (fun _ _ _ _ _ => (pv 12)))) pss_nil)
    (pss_one (ps_ret (pe_tup (pa_cons (pv 3) (pa_cons (pv 6) (pa_cons (pv 11) pa_nil)))))))))))))))), ?_⟩
  exact fun ex => (sem_seq (sem_set (sem_call (sem_conA (sem_call (sem_conA sem_var (sem_conA sem_int sem_nilA))) (sem_conA sem_int sem_nilA))))
    (sem_seq (sem_set (sem_call (sem_conA (sem_call (sem_conA sem_var (sem_conA sem_int sem_nilA))) (sem_conA sem_int sem_nilA))))
    (sem_seq (sem_frz (is := [1, 2]) (sem_set (sem_call (sem_conA sem_var (sem_conA sem_int (sem_conA (sem_bin r2_add sem_int (SemE.look (sem_bin r2_mod (SemE.look (sem_call (sem_conA sem_var (sem_conA sem_int sem_nilA)))) sem_int))) (sem_conA sem_var (sem_conA sem_var sem_nilA))))))))
    (sem_seq (sem_if (sem_tTest (sem_bin r2_eq (SemE.look (sem_bin r2_mod (SemE.look (sem_call (sem_conA sem_var (sem_conA sem_int sem_nilA)))) sem_int)) sem_int)) (sem_for (sem_rng2 (sem_conB sem_int (sem_conB (SemE.look (sem_callB c1_len (sem_conB sem_peek sem_nilB))) sem_nilB))) (sem_gName (i := 4)) (sem_kill (is := [4]) (sem_if (sem_tTest (sem_bin r2_eq (SemE.look (sem_bin r2_mod sem_peek sem_int)) sem_int)) (sem_setL (i := 3) (sem_tup (sem_conA (sem_bin r2_ix (SemE.look (sem_bin r2_ix sem_peek (SemE.look (sem_bin r2_sub sem_peek sem_int)))) sem_int) (sem_conA (sem_bin r2_add (SemE.look (sem_bin r2_ix (SemE.look (sem_bin r2_ix sem_peek (SemE.look (sem_bin r2_sub sem_peek sem_int)))) sem_int)) (SemE.look (sem_slice (SemE.look (sem_bin r2_ix (SemE.look (sem_bin r2_ix sem_peek sem_peek)) sem_int)) sem_noO (sem_someO sem_int)))) (sem_conA (sem_bin r2_ix (SemE.look (sem_bin r2_ix sem_peek sem_peek)) sem_int) sem_nilA)))) sem_peek) sem_skip))) sem_skip)
    (sem_seq (sem_set (sem_call (sem_conA (sem_call (sem_conA sem_var (sem_conA sem_int sem_nilA))) (sem_conA sem_int sem_nilA))))
    (sem_seq (sem_frz (is := [1, 2]) (sem_set (sem_lc (vs := [4]) (sem_rng1 (sem_conB (SemE.look (sem_bin r2_mod (SemE.look (sem_callB c1_int (sem_conB (SemE.look (sem_bin r2_ix sem_peek sem_int)) sem_nilB))) sem_int)) sem_nilB)) (sem_gName (i := 4)) sem_yes (sem_call (sem_conA (sem_bin r2_ix sem_peek (SemE.look (sem_bin r2_mulA sem_int sem_peek))) (sem_conA (sem_bin r2_ix sem_peek (SemE.look (sem_bin r2_add (SemE.look (sem_bin r2_mulA sem_int sem_peek)) sem_int))) (sem_conA sem_var (sem_conA sem_var sem_nilA))))) (by decide))))
    (sem_seq (sem_set (sem_callB c1_list (sem_conB sem_peek sem_nilB)))
    (sem_seq (sem_frz (is := [3]) (sem_for (sem_seqI sem_var) (sem_gTup (n := 3) (sem_gsC (sem_gName (i := 8)) (sem_gsC (sem_gName (i := 9)) (sem_gsC (sem_gName (i := 10)) sem_gsN)))) (sem_kill (is := [8, 9, 10]) (sem_set (sem_bin r2_add sem_peek (SemE.look (sem_callB c1_list (sem_conB sem_peek sem_nilB))))))))
    (sem_seq (sem_frz (is := [7]) (sem_set (sem_call (sem_conA sem_var sem_nilA))))
    (sem_seq (sem_if (sem_tTest (sem_bin r2_notn sem_peek sem_non)) (sem_frz (is := [6, 11]) (sem_set (sem_lc (vs := [12]) (sem_seqI sem_var) (sem_gName (i := 12)) (sem_tru (SemE.look (sem_call (sem_conA sem_var (sem_conA sem_var sem_nilA))))) sem_var (by decide)))) sem_skip)
    (sem_frz (is := [3, 6, 11]) (sem_ret (sem_tup (sem_conA sem_var (sem_conA sem_var (sem_conA sem_var sem_nilA))))))))))))))))
theorem ok_law_line (Bz : Bl K mg cm A_TooManySamples)  {f_law_line : Addr} {fd_law_line : FuncData} (T_law_line : Fn K mg "_law_line" s_law_line ["_law_tree_here", "_law_k"] f_law_line fd_law_line) : FnOk P w K mg base CX0 1 f_law_line fd_law_line ["_law_tree_here", "_law_k"] (spF w K cm 2 law_line_f) := by
  refine mk_ok (k := 0) T_law_line.F sc_law_line fun cdv A outer s H E hr => ⟨_,
    (pss_cons (ps_set (i := 2) sc_law_line.nd rfl (.inl rfl) (pe_lst pa_nil))
    (pss_cons (ps_for PassesOwn.never rfl (pi_range1 rfl Bz.range_ (pa_cons (pe_callB cb_len (by rfl) Bz.len_ (by decide +kernel) (pa_cons (pv 0) pa_nil)) pa_nil)) (pg_name (i := 3) sc_law_line.nd rfl (.inl rfl)) (pss_one (ps_if (PW.pt (pw_and (pt_cmpR op_notN (pv 1) pe_non (nomark _)) (pw_and1 (pt_cmpR (o_ne hr.units) (pv 1) pe_int (nomark _))))) (pss_cons (ps_expr (pe_bm PySem.F.plainAttrs_list PySem.F.slot_list_append PySem.F.type_list_append mt_append (pv 2) (pa_cons (pv 1) pa_nil)))
    (pss_one (ps_set (i := 1) sc_law_line.nd rfl (.inl rfl) (pe_ix ix_seq (pe_ix ix_seq (pv 0) (pv 1) (fun _ _ => rfl)) pe_int (fun _ _ => rfl))))) pss_nil)))
    (pss_one (ps_ret (pv 2))))), ?_⟩
  exact fun ex => (sem_seq (sem_set (sem_lst sem_nilA))
    (sem_seq (sem_for (sem_rng1 (sem_conB (SemE.look (sem_callB c1_len (sem_conB sem_peek sem_nilB))) sem_nilB)) (sem_gName (i := 3)) (sem_kill (is := [3]) (sem_if (sem_and (sem_tTest (sem_bin r2_notn sem_peek sem_non)) (sem_tTest (sem_bin r2_ne sem_peek sem_int))) (sem_seq (sem_app (i := 2) sem_var)
    (sem_set (sem_bin r2_ix (SemE.look (sem_bin r2_ix sem_peek sem_peek)) sem_int))) sem_skip)))
    (sem_retV (i := 2))))
theorem ok_law_past (Bz : Bl K mg cm A_TooManySamples) {f_law_matches : Addr} {fd_law_matches : FuncData} (T_law_matches : Fn K mg "_law_matches" s_law_matches ["_law_matchers", "_law_labels_here"] f_law_matches fd_law_matches) {f_law_value : Addr} {fd_law_value : FuncData} (T_law_value : Fn K mg "_law_value" s_law_value ["_law_labels_here", "_law_name"] f_law_value fd_law_value) {f_law_past : Addr} {fd_law_past : FuncData} (T_law_past : Fn K mg "_law_past" s_law_past ["_law_tree_here", "_law_line_here", "_law_rivals", "_law_found"] f_law_past fd_law_past) : FnOk P w K mg base CX0 3 f_law_past fd_law_past ["_law_tree_here", "_law_line_here", "_law_rivals", "_law_found"] (spF w K cm 4 law_past_f) := by
  have G_law_matches : FnOk P w K mg base CX0 2 f_law_matches fd_law_matches ["_law_matchers", "_law_labels_here"] (spF w K cm 2 law_matches_f) := ok_law_matches Bz T_law_value T_law_matches
  refine mk_ok (k := 2) T_law_past.F sc_law_past fun cdv A outer s H E hr => ⟨_,
    (pss_cons (ps_set (i := 4) sc_law_past.nd rfl (.inl rfl) (pe_lst pa_nil))
    (pss_cons (ps_for PassesOwn.never rfl (pi_seq (pv 3)) (pg_name (i := 5) sc_law_past.nd rfl (.inr rfl)) (pss_one (ps_if (PW.pt (pw_and (pt_truth (pe_callB (cr_all rfl) (by rfl) Bz.all_ (by decide +kernel) (pa_cons (pe_lc (own := [("_law_j", 6)]) (g := (gName 6)) (tt := tYes) (te := (tCall (spF w K cm 2 law_matches_f) [] E (tCons (tOp (rIx K) (tOp (rIx K) (tVar 0) (tVar 6)) (tC (.int 1))) (tCons (tVar 5) tNil)))) rfl sc_law_past.nd (pi_seq (pv 1)) (blkOk_by (N := ["_law_tree_here", "_law_line_here", "_law_rivals", "_law_found", "_law_rows", "_law_labels_here", "_law_j"]) (sc := defScope s_law_past) (by decide +kernel)) (fun _ _ _ _ _ => (pg_name (i := 6) sc_law_past.nd rfl (.inl rfl))) (fun _ _ _ _ _ => pts_nil) (fun _ _ _ _ _ => (pe_call (G_law_matches) (hr.mono (by omega)) (by rfl) T_law_matches.m T_law_matches.F.kp T_law_matches.b .nil (passE (E := E)) (pa_cons (pe_ix ix_seq (pe_ix ix_seq (pv 0) (pv 6) (fun _ _ => rfl)) pe_int (fun _ _ => rfl)) (pa_cons (pv 5) pa_nil))))) pa_nil)) (fun _ => rfl)) (pw_and1 (pt_not (pt_truth (pe_callB (cr_any rfl) (by rfl) Bz.any_ (by decide +kernel) (pa_cons (pe_lc (own := [("_law_j", 6)]) (g := (gName 6)) (tt := tYes) (te := (tCall (spF w K cm 2 law_matches_f) [] E (tCons (tOp (rIx K) (tOp (rIx K) (tVar 0) (tVar 6)) (tC (.int 1))) (tCons (tVar 5) tNil)))) rfl sc_law_past.nd (pi_seq (pv 2)) (blkOk_by (N := ["_law_tree_here", "_law_line_here", "_law_rivals", "_law_found", "_law_rows", "_law_labels_here", "_law_j"]) (sc := defScope s_law_past) (by decide +kernel)) (fun _ _ _ _ _ => (pg_name (i := 6) sc_law_past.nd rfl (.inl rfl))) (fun _ _ _ _ _ => pts_nil) (fun _ _ _ _ _ => (pe_call (G_law_matches) (hr.mono (by omega)) (by rfl) T_law_matches.m T_law_matches.F.kp T_law_matches.b .nil (passE (E := E)) (pa_cons (pe_ix ix_seq (pe_ix ix_seq (pv 0) (pv 6) (fun _ _ => rfl)) pe_int (fun _ _ => rfl)) (pa_cons (pv 5) pa_nil))))) pa_nil)) (fun _ => rfl)))))) (pss_one (ps_expr (pe_bm PySem.F.plainAttrs_list PySem.F.slot_list_append PySem.F.type_list_append mt_append (pv 4) (pa_cons (pv 5) pa_nil)))) pss_nil)))
    (pss_one (ps_ret (pv 4))))), ?_⟩
  exact fun ex => (sem_seq (sem_set (sem_lst sem_nilA))
    (sem_seq (sem_for (sem_seqI sem_var) (sem_gName (i := 5)) (sem_kill (is := [5]) (sem_if (sem_and (sem_tru (SemE.look (sem_callB c1_all (sem_conB (SemE.look (sem_lc (vs := [6]) (sem_seqI sem_var) (sem_gName (i := 6)) sem_yes (sem_call (sem_conA (sem_bin r2_ix (SemE.look (sem_bin r2_ix sem_peek sem_peek)) sem_int) (sem_conA sem_var sem_nilA))) (by decide))) sem_nilB)))) (sem_not (sem_tru (SemE.look (sem_callB c1_any (sem_conB (SemE.look (sem_lc (vs := [6]) (sem_seqI sem_var) (sem_gName (i := 6)) sem_yes (sem_call (sem_conA (sem_bin r2_ix (SemE.look (sem_bin r2_ix sem_peek sem_peek)) sem_int) (sem_conA sem_var sem_nilA))) (by decide))) sem_nilB)))))) (sem_app (i := 4) sem_var) sem_skip)))
    (sem_retV (i := 4))))
theorem ok_law (Bz : Bl K mg cm A_TooManySamples) {t_MOST_SAMPLES : Tok} (C_MOST_SAMPLES : True ∧ mg "MOST_SAMPLES" = some (.int 300 t_MOST_SAMPLES)) {f_law_case : Addr} {fd_law_case : FuncData} (T_law_case : Fn K mg "_law_case" s_law_case ["_law_script"] f_law_case fd_law_case) {f_law_words : Addr} {fd_law_words : FuncData} (T_law_words : Fn K mg "_law_words" s_law_words ["_law_cell_here", "_law_many"] f_law_words fd_law_words) {f_law_cell : Addr} {fd_law_cell : FuncData} (T_law_cell : Fn K mg "_law_cell" s_law_cell ["_law_script", "_law_k"] f_law_cell fd_law_cell) {f_law_worths : Addr} {fd_law_worths : FuncData} (T_law_worths : Fn K mg "_law_worths" s_law_worths ["_law_cell_here", "_law_many"] f_law_worths fd_law_worths) {f_law_tree : Addr} {fd_law_tree : FuncData} (T_law_tree : Fn K mg "_law_tree" s_law_tree ["_law_script", "_law_first", "_law_last", "_law_names", "_law_worths_here"] f_law_tree fd_law_tree) {f_law_route : Addr} {fd_law_route : FuncData} (T_law_route : Fn K mg "_law_route" s_law_route ["_law_cell_here", "_law_place", "_law_names", "_law_worths_here", "_law_ladders", "_law_shutters"] f_law_route fd_law_route) {f_law_draws : Addr} {fd_law_draws : FuncData} (T_law_draws : Fn K mg "_law_draws" s_law_draws ["_law_cell_here", "_law_many"] f_law_draws fd_law_draws) {f_law_matcher : Addr} {fd_law_matcher : FuncData} (T_law_matcher : Fn K mg "_law_matcher" s_law_matcher ["_law_first", "_law_second", "_law_names", "_law_worths_here"] f_law_matcher fd_law_matcher) {f_law_samples : Addr} {fd_law_samples : FuncData} (T_law_samples : Fn K mg "_law_samples" s_law_samples ["_law_matchers"] f_law_samples fd_law_samples) {f_law_times : Addr} {fd_law_times : FuncData} (T_law_times : Fn K mg "_law_times" s_law_times ["_law_rows", "_law_name", "_law_choices"] f_law_times fd_law_times) {f_law_matches : Addr} {fd_law_matches : FuncData} (T_law_matches : Fn K mg "_law_matches" s_law_matches ["_law_matchers", "_law_labels_here"] f_law_matches fd_law_matches) {f_law_value : Addr} {fd_law_value : FuncData} (T_law_value : Fn K mg "_law_value" s_law_value ["_law_labels_here", "_law_name"] f_law_value fd_law_value) {f_survey : Addr} {fd_survey : FuncData} (T_survey : Fn K mg "survey" s_survey ["routes", "must"] f_survey fd_survey) {f_considered : Addr} {fd_considered : FuncData} (T_considered : Fn K mg "_considered" s_considered ["must", "matchers"] f_considered fd_considered) {f_sample_alerts : Addr} {fd_sample_alerts : FuncData} (T_sample_alerts : Fn K mg "sample_alerts" s_sample_alerts ["matchers"] f_sample_alerts fd_sample_alerts) {f_choices : Addr} {fd_choices : FuncData} (T_choices : Fn K mg "_choices" s_choices ["matchers", "name"] f_choices fd_choices) {f_count : Addr} {fd_count : FuncData} (T_count : Fn K mg "_count" s_count ["rows"] f_count fd_count) {f_matches_all : Addr} {fd_matches_all : FuncData} (T_matches_all : Fn K mg "matches_all" s_matches_all ["matchers", "labels"] f_matches_all fd_matches_all) {f_matches : Addr} {fd_matches : FuncData} (T_matches : Fn K mg "matches" s_matches ["matcher", "labels"] f_matches fd_matches) {f_value_of : Addr} {fd_value_of : FuncData} (T_value_of : Fn K mg "value_of" s_value_of ["labels", "name"] f_value_of fd_value_of) {f_matchers_of : Addr} {fd_matchers_of : FuncData} (T_matchers_of : Fn K mg "_matchers_of" s_matchers_of ["routes"] f_matchers_of fd_matchers_of) {f_way : Addr} {fd_way : FuncData} (T_way : Fn K mg "way" s_way ["routes", "labels"] f_way fd_way) {f_later : Addr} {fd_later : FuncData} (T_later : Fn K mg "_later" s_later ["routes", "at", "labels"] f_later fd_later) {f_blockers : Addr} {fd_blockers : FuncData} (T_blockers : Fn K mg "_blockers" s_blockers ["routes", "alerts", "number"] f_blockers fd_blockers) {f_lineage : Addr} {fd_lineage : FuncData} (T_lineage : Fn K mg "_lineage" s_lineage ["routes", "number"] f_lineage fd_lineage) {f_rivals : Addr} {fd_rivals : FuncData} (T_rivals : Fn K mg "_rivals" s_rivals ["routes", "number"] f_rivals fd_rivals) {f_gets_past : Addr} {fd_gets_past : FuncData} (T_gets_past : Fn K mg "_gets_past" s_gets_past ["routes", "line", "rivals", "labels"] f_gets_past fd_gets_past) {f_law_line : Addr} {fd_law_line : FuncData} (T_law_line : Fn K mg "_law_line" s_law_line ["_law_tree_here", "_law_k"] f_law_line fd_law_line) {f_law_past : Addr} {fd_law_past : FuncData} (T_law_past : Fn K mg "_law_past" s_law_past ["_law_tree_here", "_law_line_here", "_law_rivals", "_law_found"] f_law_past fd_law_past) {f_law_same : Addr} {fd_law_same : FuncData} (T_law_same : Fn K mg "_law_same" s_law_same ["_law_told", "_law_due"] f_law_same fd_law_same) {f_law : Addr} {fd_law : FuncData} (T_law : Fn K mg "law" s_law ["_law_script"] f_law fd_law) : FnOk P w K mg base (L2.CX P w) 10 f_law fd_law ["_law_script"] (spF w K cm 1 law_f) := by
  have G_law_case : FnOk P w K mg base CX0 4 f_law_case fd_law_case ["_law_script"] (spF w K cm 1 law_case_f) := ok_law_case Bz T_law_words T_law_cell T_law_worths T_law_tree T_law_route T_law_draws T_law_matcher T_law_samples T_law_times T_law_matches T_law_value T_law_case
  have G_survey : FnOk P w K mg base (L2.CX P w) 6 f_survey fd_survey ["routes", "must"] (spF w K cm 2 survey_f) := ok_survey Bz C_MOST_SAMPLES T_considered T_sample_alerts T_choices T_count T_matches_all T_matches T_value_of T_matchers_of T_way T_later T_blockers T_lineage T_rivals T_gets_past T_survey
  have G_law_line : FnOk P w K mg base CX0 1 f_law_line fd_law_line ["_law_tree_here", "_law_k"] (spF w K cm 2 law_line_f) := ok_law_line Bz  T_law_line
  have G_law_past : FnOk P w K mg base CX0 3 f_law_past fd_law_past ["_law_tree_here", "_law_line_here", "_law_rivals", "_law_found"] (spF w K cm 4 law_past_f) := ok_law_past Bz T_law_matches T_law_value T_law_past
  have G_law_same : FnOk P w K mg base CX0 9 f_law_same fd_law_same ["_law_told", "_law_due"] (spF w K cm 2 law_same_f) := ok_law_same Bz  T_law_same
  refine mk_okX (k := 9) T_law.F sc_law fun cdv A outer s H E hr => ⟨_,
    (pss_cons (ps_asg (pe_call (G_law_case) (hr.mono (by omega)) (by rfl) T_law_case.m T_law_case.F.kp T_law_case.b .nil (passE (E := E)) (pa_cons (pv 0) pa_nil)) (pg_sq (by rfl) (pgs_cons (pg_name (i := 1) sc_law.nd rfl (.inr rfl)) (pgs_cons (pg_name (i := 2) sc_law.nd rfl (.inl rfl)) (pgs_cons (pg_name (i := 3) sc_law.nd rfl (.inl rfl)) pgs_nil)))))
    (pss_cons (ps_if (pt_cmpR op_isN (pv 3) pe_non (nomark _)) (pss_one (ps_ret pe_bl)) pss_nil)
    (pss_cons (ps_set (i := 4) sc_law.nd rfl (.inl rfl) (pe_call (G_survey) (hr.mono (by omega)) (by rfl) T_survey.m T_survey.F.kp T_survey.b .nil passX (pa_cons (pe_callTy cb_list (by rfl) Bz.list_ (by decide +kernel) (pa_cons (pv 1) pa_nil)) (pa_cons (pe_callTy cb_list (by rfl) Bz.list_ (by decide +kernel) (pa_cons (pv 2) pa_nil)) pa_nil))))
    (pss_cons (ps_for (passes_of rfl) rfl (pi_range1 rfl Bz.range_ (pa_cons (pe_callB cb_len (by rfl) Bz.len_ (by decide +kernel) (pa_cons (pv 1) pa_nil)) pa_nil)) (pg_name (i := 5) sc_law.nd rfl (.inl rfl)) (pss_one (ps_if (pt_cmpR op_isN (pe_ix ix_seq (pe_ix ix_seq (pv 4) (pv 5) (fun _ _ => rfl)) pe_int (fun _ _ => rfl)) pe_non (nomark _)) (pss_cons (ps_set (i := 6) sc_law.nd rfl (.inr rfl) (pe_call (G_law_line) (hr.mono (by omega)) (by rfl) T_law_line.m T_law_line.F.kp T_law_line.b .nil (passE (E := E)) (pa_cons (pv 1) (pa_cons (pv 5) pa_nil))))
    (pss_cons (ps_set (i := 8) sc_law.nd rfl (.inr rfl) (pe_lc (own := [("_law_j", 7)]) (g := (gName 7)) (tt := (fun σ H Q => (tCB (rAny K) (tCons (tLc (iSeq K (tVar 6)) (gName 12) tYes (tAndV (tOp rLt (tVar 7) (tVar 12)) (tOp (rEqA K) (tOp (rIx K) (tOp (rIx K) (tVar 1) (tVar 7)) (tC (.int 0))) (tOp (rIx K) (tOp (rIx K) (tVar 1) (tVar 12)) (tC (.int 0))))) [12]) tNil)) σ H fun x H' => ∃ k, TruV K x H' k ∧ Q k H')) (te := (tVar 7)) rfl sc_law.nd (pi_range2 rfl Bz.range_ (pa_cons pe_int (pa_cons (pe_callB cb_len (by rfl) Bz.len_ (by decide +kernel) (pa_cons (pv 1) pa_nil)) pa_nil))) (blkOk_by (N := ["_law_script", "_law_tree_here", "_law_must", "_law_found", "_law_rows", "_law_k", "_law_line_here", "_law_j", "_law_rivals", "_law_blockers", "_law_kept", "_law_fewer", "_law_i"]) (sc := defScope s_law) (by decide +kernel)) (fun _ _ _ _ _ => (pg_name (i := 7) sc_law.nd rfl (.inr rfl))) (fun _ _ _ _ _ => (pts_one (pt_truth (pe_callB (cr_any rfl) (by rfl) Bz.any_ (by decide +kernel) (pa_cons (pe_lc (own := [("_law_i", 12)]) (g := (gName 12)) (tt := tYes) (te := (tAndV (tOp rLt (tVar 7) (tVar 12)) (tOp (rEqA K) (tOp (rIx K) (tOp (rIx K) (tVar 1) (tVar 7)) (tC (.int 0))) (tOp (rIx K) (tOp (rIx K) (tVar 1) (tVar 12)) (tC (.int 0)))))) rfl sc_law.nd (pi_seq (pv 6)) (blkOk_by (N := ["_law_script", "_law_tree_here", "_law_must", "_law_found", "_law_rows", "_law_k", "_law_line_here", "_law_j", "_law_rivals", "_law_blockers", "_law_kept", "_law_fewer", "_law_i"]) (sc := ({ kind := PySem.ScopeKind.function, names := [ (PySem.Str.ofString ".0", PySem.NameKind.local), (PySem.Str.ofString "_law_j", PySem.NameKind.cell), (PySem.Str.ofString "any", PySem.NameKind.globalImplicit), (PySem.Str.ofString "_law_line_here", PySem.NameKind.cell), (PySem.Str.ofString "_law_tree_here", PySem.NameKind.cell)], isGenerator := false, isCoroutine := false, more := [] : PySem.Scope } : Scope)) (by decide +kernel)) (fun _ _ _ _ _ => (pg_name (i := 12) sc_law.nd rfl (.inl rfl))) (fun _ _ _ _ _ => pts_nil) (fun _ _ _ _ _ => (pe_and (pe_cmpR o_lt (pv 7) (pv 12) (nomark _)) (pe_one (pe_cmpR (o_eq hr.units) (pe_ix ix_seq (pe_ix ix_seq (pv 1) (pv 7) (fun _ _ => rfl)) pe_int (fun _ _ => rfl)) (pe_ix ix_seq (pe_ix ix_seq (pv 1) (pv 12) (fun _ _ => rfl)) pe_int (fun _ _ => rfl)) (nomark _)))))) pa_nil)) (fun _ => rfl)))) (fun _ _ _ _ _ => (pv 7))))
    (pss_cons (ps_set (i := 9) sc_law.nd rfl (.inl rfl) (pe_ix ix_seq (pe_ix ix_seq (pv 4) (pv 5) (fun _ _ => rfl)) pe_int (fun _ _ => rfl)))
    (pss_cons (ps_if (PW.pt (pw_or (pt_truth (pe_lc (own := [("_law_j", 7)]) (g := (gName 7)) (tt := (tTest (tOp (rNotInA K) (tVar 7) (tVar 8)))) (te := (tVar 7)) rfl sc_law.nd (pi_seq (pv 9)) (blkOk_by (N := ["_law_script", "_law_tree_here", "_law_must", "_law_found", "_law_rows", "_law_k", "_law_line_here", "_law_j", "_law_rivals", "_law_blockers", "_law_kept", "_law_fewer", "_law_i"]) (sc := defScope s_law) (by decide +kernel)) (fun _ _ _ _ _ => (pg_name (i := 7) sc_law.nd rfl (.inl rfl))) (fun _ _ _ _ _ => (pts_one (pt_cmpR (o_notin (u65 hr)) (pv 7) (pv 8) (by rfl)))) (fun _ _ _ _ _ => (pv 7))) (fun _ => rfl)) (pw_or1 (pt_truth (pe_call (G_law_past) (hr.mono (by omega)) (by rfl) T_law_past.m T_law_past.F.kp T_law_past.b .nil (passE (E := E)) (pa_cons (pv 1) (pa_cons (pv 6) (pa_cons (pv 9) (pa_cons (pv 3) pa_nil))))) (fun _ => rfl))))) (pss_one (ps_ret pe_bl)) pss_nil)
    (pss_cons (ps_for (passes_of rfl) rfl (pi_seq (pv 9)) (pg_name (i := 7) sc_law.nd rfl (.inr rfl)) (pss_one (ps_if (pt_not (pt_truth (pe_call (G_law_past) (hr.mono (by omega)) (by rfl) T_law_past.m T_law_past.F.kp T_law_past.b .nil (passE (E := E)) (pa_cons (pv 1) (pa_cons (pv 6) (pa_cons (pe_lc (own := [("_law_i", 12)]) (g := (gName 12)) (tt := (tTest (tOp (rNeA K) (tVar 12) (tVar 7)))) (te := (tVar 12)) rfl sc_law.nd (pi_seq (pv 9)) (blkOk_by (N := ["_law_script", "_law_tree_here", "_law_must", "_law_found", "_law_rows", "_law_k", "_law_line_here", "_law_j", "_law_rivals", "_law_blockers", "_law_kept", "_law_fewer", "_law_i"]) (sc := defScope s_law) (by decide +kernel)) (fun _ _ _ _ _ => (pg_name (i := 12) sc_law.nd rfl (.inl rfl))) (fun _ _ _ _ _ => (pts_one (pt_cmpR (o_ne hr.units) (pv 12) (pv 7) (nomark _)))) (fun _ _ _ _ _ => (pv 12))) (pa_cons (pv 3) pa_nil))))) (fun _ => rfl))) (pss_one (ps_ret pe_bl)) pss_nil)))
    (pss_cons (ps_set (i := 10) sc_law.nd rfl (.inl rfl) (pe_callTy cb_list (by rfl) Bz.list_ (by decide +kernel) (pa_cons (pv 8) pa_nil)))
    (pss_cons (ps_for (passes_of rfl) rfl (pi_seq (pv 8)) (pg_name (i := 7) sc_law.nd rfl (.inr rfl)) (pss_cons (ps_setLc (i := 11) (own := [("_law_i", 12)]) (g := (gName 12)) (tt := (tTest (tOp (rNeA K) (tVar 12) (tVar 7)))) (te := (tVar 12)) rfl sc_law.nd rfl rfl (sw_true rfl rfl rfl (by decide +kernel)) (pi_seq (pv 10)) (blkOk_by (N := ["_law_script", "_law_tree_here", "_law_must", "_law_found", "_law_rows", "_law_k", "_law_line_here", "_law_j", "_law_rivals", "_law_blockers", "_law_kept", "_law_fewer", "_law_i"]) (sc := defScope s_law) (by decide +kernel)) (fun _ _ _ _ _ => (pg_name (i := 12) sc_law.nd rfl (.inl rfl))) (fun _ _ _ _ _ => (pts_one (pt_cmpR (o_ne hr.units) (pv 12) (pv 7) (nomark _)))) (fun _ _ _ _ _ => (pv 12)))
    (pss_one (ps_if (pt_not (pt_truth (pe_call (G_law_past) (hr.mono (by omega)) (by rfl) T_law_past.m T_law_past.F.kp T_law_past.b .nil (passE (E := E)) (pa_cons (pv 1) (pa_cons (pv 6) (pa_cons (pv 11) (pa_cons (pv 3) pa_nil))))) (fun _ => rfl))) (pss_one (ps_set (i := 10) sc_law.nd rfl (.inl rfl) (pv 11))) pss_nil))))
    (pss_one (ps_if (pt_not (pt_truth (pe_call (G_law_same) (hr.mono (by omega)) (by rfl) T_law_same.m T_law_same.F.kp T_law_same.b .nil (passE (E := E)) (pa_cons (pv 9) (pa_cons (pv 10) pa_nil))) (fun _ => rfl))) (pss_one (ps_ret pe_bl)) pss_nil))))))))) pss_nil)))
    (pss_one (ps_ret pe_bl)))))), ?_⟩
  exact fun ex => (sem_seq (sem_asgG (sem_call (sem_conA sem_var sem_nilA)) (sem_gTup (n := 3) (sem_gsC (sem_gName (i := 1)) (sem_gsC (sem_gName (i := 2)) (sem_gsC (sem_gName (i := 3)) sem_gsN)))))
    (sem_seq (sem_if (sem_tTest (sem_bin r2_isn sem_peek sem_non)) (sem_ret sem_bl) sem_skip)
    (sem_seq (sem_set (sem_call (sem_conA (sem_callB c1_list (sem_conB sem_peek sem_nilB)) (sem_conA (sem_callB c1_list (sem_conB sem_peek sem_nilB)) sem_nilA))))
    (sem_seq (sem_for (sem_rng1 (sem_conB (SemE.look (sem_callB c1_len (sem_conB sem_peek sem_nilB))) sem_nilB)) (sem_gName (i := 5)) (sem_kill (is := [5, 6, 7, 8, 9, 10, 11]) (sem_if (sem_tTest (sem_bin r2_isn (SemE.look (sem_bin r2_ix (SemE.look (sem_bin r2_ix sem_peek sem_peek)) sem_int)) sem_non)) (sem_seq (sem_set (sem_call (sem_conA sem_var (sem_conA sem_var sem_nilA))))
    (sem_seq (sem_frz (is := [6]) (sem_set (sem_lc (vs := [7]) (sem_rng2 (sem_conB sem_int (sem_conB (SemE.look (sem_callB c1_len (sem_conB sem_peek sem_nilB))) sem_nilB))) (sem_gName (i := 7)) (sem_tru (SemE.look (sem_callB c1_any (sem_conB (SemE.look (sem_lc (vs := [12]) (sem_seqI sem_var) (sem_gName (i := 12)) sem_yes (sem_andV (SemE.look (sem_bin r2_lt sem_peek sem_peek)) (sem_bin r2_eq (SemE.look (sem_bin r2_ix (SemE.look (sem_bin r2_ix sem_peek sem_peek)) sem_int)) (SemE.look (sem_bin r2_ix (SemE.look (sem_bin r2_ix sem_peek sem_peek)) sem_int)))) (by decide))) sem_nilB)))) sem_var (by decide))))
    (sem_seq (sem_set (sem_bin r2_ix (SemE.look (sem_bin r2_ix sem_peek sem_peek)) sem_int))
    (sem_seq (sem_frz (is := [6]) (sem_if (sem_or (sem_tru (SemE.look (sem_lc (vs := [7]) (sem_seqI sem_var) (sem_gName (i := 7)) (sem_tTest (sem_bin r2_notin sem_peek sem_peek)) sem_var (by decide)))) (sem_tru (SemE.look (sem_call (sem_conA sem_var (sem_conA sem_var (sem_conA sem_var (sem_conA sem_var sem_nilA)))))))) (sem_ret sem_bl) sem_skip))
    (sem_seq (sem_for (sem_seqI sem_var) (sem_gName (i := 7)) (sem_kill (is := [7]) (sem_frz (is := [6]) (sem_if (sem_not (sem_tru (SemE.look (sem_call (sem_conA sem_var (sem_conA sem_var (sem_conA (sem_lc (vs := [12]) (sem_seqI sem_var) (sem_gName (i := 12)) (sem_tTest (sem_bin r2_ne sem_peek sem_peek)) sem_var (by decide)) (sem_conA sem_var sem_nilA)))))))) (sem_ret sem_bl) sem_skip))))
    (sem_seq (sem_set (sem_callB c1_list (sem_conB sem_peek sem_nilB)))
    (sem_seq (sem_frz (is := [8]) (sem_for (sem_seqI sem_var) (sem_gName (i := 7)) (sem_kill (is := [7, 11]) (sem_seq (sem_frz (is := [10]) (sem_set (sem_lc (vs := [12]) (sem_seqI sem_var) (sem_gName (i := 12)) (sem_tTest (sem_bin r2_ne sem_peek sem_peek)) sem_var (by decide))))
    (sem_frz (is := [6, 11]) (sem_if (sem_not (sem_tru (SemE.look (sem_call (sem_conA sem_var (sem_conA sem_var (sem_conA sem_var (sem_conA sem_var sem_nilA)))))))) (sem_frz (is := [11]) (sem_set sem_var)) sem_skip))))))
    (sem_frz (is := [10]) (sem_if (sem_not (sem_tru (SemE.look (sem_call (sem_conA sem_var (sem_conA sem_var sem_nilA)))))) (sem_ret sem_bl) sem_skip))))))))) sem_skip)))
    (sem_ret sem_bl)))))
end
/-! ### the end -/
theorem all_mk {l : PySem.W.OpenLaw} {w : World} {K : PySem.W.Frag} {h : Heap} {mg : Str → Option Value} {fa : Addr} {A_TooManySamples : Addr} (X : K.In h) (G : h.Ns mainGlobals mg) (hfa : mg "law" = some (.ref fa))
    {od_value_of an_value_of : Option Addr} {sl_value_of : Array (Option Value)} {oc_value_of kV_value_of dc_value_of pm_value_of cd_value_of ct_value_of : Value} {f_value_of : Addr}
    {od_matches an_matches : Option Addr} {sl_matches : Array (Option Value)} {oc_matches kV_matches dc_matches pm_matches cd_matches ct_matches : Value} {f_matches : Addr}
    {od_matches_all an_matches_all : Option Addr} {sl_matches_all : Array (Option Value)} {oc_matches_all kV_matches_all dc_matches_all pm_matches_all cd_matches_all ct_matches_all : Value} {f_matches_all : Addr}
    {od_later an_later : Option Addr} {sl_later : Array (Option Value)} {oc_later kV_later dc_later pm_later cd_later ct_later : Value} {f_later : Addr}
    {od_way an_way : Option Addr} {sl_way : Array (Option Value)} {oc_way kV_way dc_way pm_way cd_way ct_way : Value} {f_way : Addr}
    {od_choices an_choices : Option Addr} {sl_choices : Array (Option Value)} {oc_choices kV_choices dc_choices pm_choices cd_choices ct_choices : Value} {f_choices : Addr}
    {od_count an_count : Option Addr} {sl_count : Array (Option Value)} {oc_count kV_count dc_count pm_count cd_count ct_count : Value} {f_count : Addr}
    {od_sample_alerts an_sample_alerts : Option Addr} {sl_sample_alerts : Array (Option Value)} {oc_sample_alerts kV_sample_alerts dc_sample_alerts pm_sample_alerts cd_sample_alerts ct_sample_alerts : Value} {f_sample_alerts : Addr}
    {od_matchers_of an_matchers_of : Option Addr} {sl_matchers_of : Array (Option Value)} {oc_matchers_of kV_matchers_of dc_matchers_of pm_matchers_of cd_matchers_of ct_matchers_of : Value} {f_matchers_of : Addr}
    {od_considered an_considered : Option Addr} {sl_considered : Array (Option Value)} {oc_considered kV_considered dc_considered pm_considered cd_considered ct_considered : Value} {f_considered : Addr}
    {od_lineage an_lineage : Option Addr} {sl_lineage : Array (Option Value)} {oc_lineage kV_lineage dc_lineage pm_lineage cd_lineage ct_lineage : Value} {f_lineage : Addr}
    {od_rivals an_rivals : Option Addr} {sl_rivals : Array (Option Value)} {oc_rivals kV_rivals dc_rivals pm_rivals cd_rivals ct_rivals : Value} {f_rivals : Addr}
    {od_gets_past an_gets_past : Option Addr} {sl_gets_past : Array (Option Value)} {oc_gets_past kV_gets_past dc_gets_past pm_gets_past cd_gets_past ct_gets_past : Value} {f_gets_past : Addr}
    {od_blockers an_blockers : Option Addr} {sl_blockers : Array (Option Value)} {oc_blockers kV_blockers dc_blockers pm_blockers cd_blockers ct_blockers : Value} {f_blockers : Addr}
    {od_survey an_survey : Option Addr} {sl_survey : Array (Option Value)} {oc_survey kV_survey dc_survey pm_survey cd_survey ct_survey : Value} {f_survey : Addr}
    {od_law_cell an_law_cell : Option Addr} {sl_law_cell : Array (Option Value)} {oc_law_cell kV_law_cell dc_law_cell pm_law_cell cd_law_cell ct_law_cell : Value} {f_law_cell : Addr}
    {od_law_draws an_law_draws : Option Addr} {sl_law_draws : Array (Option Value)} {oc_law_draws kV_law_draws dc_law_draws pm_law_draws cd_law_draws ct_law_draws : Value} {f_law_draws : Addr}
    {od_law_same an_law_same : Option Addr} {sl_law_same : Array (Option Value)} {oc_law_same kV_law_same dc_law_same pm_law_same cd_law_same ct_law_same : Value} {f_law_same : Addr}
    {od_law_words an_law_words : Option Addr} {sl_law_words : Array (Option Value)} {oc_law_words kV_law_words dc_law_words pm_law_words cd_law_words ct_law_words : Value} {f_law_words : Addr}
    {od_law_worths an_law_worths : Option Addr} {sl_law_worths : Array (Option Value)} {oc_law_worths kV_law_worths dc_law_worths pm_law_worths cd_law_worths ct_law_worths : Value} {f_law_worths : Addr}
    {od_law_matcher an_law_matcher : Option Addr} {sl_law_matcher : Array (Option Value)} {oc_law_matcher kV_law_matcher dc_law_matcher pm_law_matcher cd_law_matcher ct_law_matcher : Value} {f_law_matcher : Addr}
    {od_law_value an_law_value : Option Addr} {sl_law_value : Array (Option Value)} {oc_law_value kV_law_value dc_law_value pm_law_value cd_law_value ct_law_value : Value} {f_law_value : Addr}
    {od_law_matches an_law_matches : Option Addr} {sl_law_matches : Array (Option Value)} {oc_law_matches kV_law_matches dc_law_matches pm_law_matches cd_law_matches ct_law_matches : Value} {f_law_matches : Addr}
    {od_law_route an_law_route : Option Addr} {sl_law_route : Array (Option Value)} {oc_law_route kV_law_route dc_law_route pm_law_route cd_law_route ct_law_route : Value} {f_law_route : Addr}
    {od_law_tree an_law_tree : Option Addr} {sl_law_tree : Array (Option Value)} {oc_law_tree kV_law_tree dc_law_tree pm_law_tree cd_law_tree ct_law_tree : Value} {f_law_tree : Addr}
    {od_law_times an_law_times : Option Addr} {sl_law_times : Array (Option Value)} {oc_law_times kV_law_times dc_law_times pm_law_times cd_law_times ct_law_times : Value} {f_law_times : Addr}
    {od_law_samples an_law_samples : Option Addr} {sl_law_samples : Array (Option Value)} {oc_law_samples kV_law_samples dc_law_samples pm_law_samples cd_law_samples ct_law_samples : Value} {f_law_samples : Addr}
    {od_law_case an_law_case : Option Addr} {sl_law_case : Array (Option Value)} {oc_law_case kV_law_case dc_law_case pm_law_case cd_law_case ct_law_case : Value} {f_law_case : Addr}
    {od_law_line an_law_line : Option Addr} {sl_law_line : Array (Option Value)} {oc_law_line kV_law_line dc_law_line pm_law_line cd_law_line ct_law_line : Value} {f_law_line : Addr}
    {od_law_past an_law_past : Option Addr} {sl_law_past : Array (Option Value)} {oc_law_past kV_law_past dc_law_past pm_law_past cd_law_past ct_law_past : Value} {f_law_past : Addr}
    {od_law an_law : Option Addr} {sl_law : Array (Option Value)} {oc_law kV_law dc_law pm_law cd_law ct_law : Value} {f_law : Addr} {t_MOST_SAMPLES : Tok}
    (a_value_of : PySem.W.nsIn K mainGlobals "value_of" = some (some (.ref f_value_of))) (l_value_of : K.lookup f_value_of = some ⟨oc_value_of, od_value_of, .func (PySem.W.fnOf "value_of" "value_of" (defArgs s_value_of) (defBody s_value_of) (defScope s_value_of) .none kV_value_of dc_value_of pm_value_of an_value_of cd_value_of ct_value_of), sl_value_of⟩) (c_value_of : PySem.W.codeIn K cd_value_of "value_of" = true) (k_value_of : PySem.W.keepIn K (.ref f_value_of) = true)
    (a_matches : PySem.W.nsIn K mainGlobals "matches" = some (some (.ref f_matches))) (l_matches : K.lookup f_matches = some ⟨oc_matches, od_matches, .func (PySem.W.fnOf "matches" "matches" (defArgs s_matches) (defBody s_matches) (defScope s_matches) .none kV_matches dc_matches pm_matches an_matches cd_matches ct_matches), sl_matches⟩) (c_matches : PySem.W.codeIn K cd_matches "matches" = true) (k_matches : PySem.W.keepIn K (.ref f_matches) = true)
    (a_matches_all : PySem.W.nsIn K mainGlobals "matches_all" = some (some (.ref f_matches_all))) (l_matches_all : K.lookup f_matches_all = some ⟨oc_matches_all, od_matches_all, .func (PySem.W.fnOf "matches_all" "matches_all" (defArgs s_matches_all) (defBody s_matches_all) (defScope s_matches_all) .none kV_matches_all dc_matches_all pm_matches_all an_matches_all cd_matches_all ct_matches_all), sl_matches_all⟩) (c_matches_all : PySem.W.codeIn K cd_matches_all "matches_all" = true) (k_matches_all : PySem.W.keepIn K (.ref f_matches_all) = true)
    (a_later : PySem.W.nsIn K mainGlobals "_later" = some (some (.ref f_later))) (l_later : K.lookup f_later = some ⟨oc_later, od_later, .func (PySem.W.fnOf "_later" "_later" (defArgs s_later) (defBody s_later) (defScope s_later) .none kV_later dc_later pm_later an_later cd_later ct_later), sl_later⟩) (c_later : PySem.W.codeIn K cd_later "_later" = true) (k_later : PySem.W.keepIn K (.ref f_later) = true)
    (a_way : PySem.W.nsIn K mainGlobals "way" = some (some (.ref f_way))) (l_way : K.lookup f_way = some ⟨oc_way, od_way, .func (PySem.W.fnOf "way" "way" (defArgs s_way) (defBody s_way) (defScope s_way) .none kV_way dc_way pm_way an_way cd_way ct_way), sl_way⟩) (c_way : PySem.W.codeIn K cd_way "way" = true) (k_way : PySem.W.keepIn K (.ref f_way) = true)
    (a_choices : PySem.W.nsIn K mainGlobals "_choices" = some (some (.ref f_choices))) (l_choices : K.lookup f_choices = some ⟨oc_choices, od_choices, .func (PySem.W.fnOf "_choices" "_choices" (defArgs s_choices) (defBody s_choices) (defScope s_choices) .none kV_choices dc_choices pm_choices an_choices cd_choices ct_choices), sl_choices⟩) (c_choices : PySem.W.codeIn K cd_choices "_choices" = true) (k_choices : PySem.W.keepIn K (.ref f_choices) = true)
    (a_count : PySem.W.nsIn K mainGlobals "_count" = some (some (.ref f_count))) (l_count : K.lookup f_count = some ⟨oc_count, od_count, .func (PySem.W.fnOf "_count" "_count" (defArgs s_count) (defBody s_count) (defScope s_count) .none kV_count dc_count pm_count an_count cd_count ct_count), sl_count⟩) (c_count : PySem.W.codeIn K cd_count "_count" = true) (k_count : PySem.W.keepIn K (.ref f_count) = true)
    (a_sample_alerts : PySem.W.nsIn K mainGlobals "sample_alerts" = some (some (.ref f_sample_alerts))) (l_sample_alerts : K.lookup f_sample_alerts = some ⟨oc_sample_alerts, od_sample_alerts, .func (PySem.W.fnOf "sample_alerts" "sample_alerts" (defArgs s_sample_alerts) (defBody s_sample_alerts) (defScope s_sample_alerts) .none kV_sample_alerts dc_sample_alerts pm_sample_alerts an_sample_alerts cd_sample_alerts ct_sample_alerts), sl_sample_alerts⟩) (c_sample_alerts : PySem.W.codeIn K cd_sample_alerts "sample_alerts" = true) (k_sample_alerts : PySem.W.keepIn K (.ref f_sample_alerts) = true)
    (a_matchers_of : PySem.W.nsIn K mainGlobals "_matchers_of" = some (some (.ref f_matchers_of))) (l_matchers_of : K.lookup f_matchers_of = some ⟨oc_matchers_of, od_matchers_of, .func (PySem.W.fnOf "_matchers_of" "_matchers_of" (defArgs s_matchers_of) (defBody s_matchers_of) (defScope s_matchers_of) .none kV_matchers_of dc_matchers_of pm_matchers_of an_matchers_of cd_matchers_of ct_matchers_of), sl_matchers_of⟩) (c_matchers_of : PySem.W.codeIn K cd_matchers_of "_matchers_of" = true) (k_matchers_of : PySem.W.keepIn K (.ref f_matchers_of) = true)
    (a_considered : PySem.W.nsIn K mainGlobals "_considered" = some (some (.ref f_considered))) (l_considered : K.lookup f_considered = some ⟨oc_considered, od_considered, .func (PySem.W.fnOf "_considered" "_considered" (defArgs s_considered) (defBody s_considered) (defScope s_considered) .none kV_considered dc_considered pm_considered an_considered cd_considered ct_considered), sl_considered⟩) (c_considered : PySem.W.codeIn K cd_considered "_considered" = true) (k_considered : PySem.W.keepIn K (.ref f_considered) = true)
    (a_lineage : PySem.W.nsIn K mainGlobals "_lineage" = some (some (.ref f_lineage))) (l_lineage : K.lookup f_lineage = some ⟨oc_lineage, od_lineage, .func (PySem.W.fnOf "_lineage" "_lineage" (defArgs s_lineage) (defBody s_lineage) (defScope s_lineage) .none kV_lineage dc_lineage pm_lineage an_lineage cd_lineage ct_lineage), sl_lineage⟩) (c_lineage : PySem.W.codeIn K cd_lineage "_lineage" = true) (k_lineage : PySem.W.keepIn K (.ref f_lineage) = true)
    (a_rivals : PySem.W.nsIn K mainGlobals "_rivals" = some (some (.ref f_rivals))) (l_rivals : K.lookup f_rivals = some ⟨oc_rivals, od_rivals, .func (PySem.W.fnOf "_rivals" "_rivals" (defArgs s_rivals) (defBody s_rivals) (defScope s_rivals) .none kV_rivals dc_rivals pm_rivals an_rivals cd_rivals ct_rivals), sl_rivals⟩) (c_rivals : PySem.W.codeIn K cd_rivals "_rivals" = true) (k_rivals : PySem.W.keepIn K (.ref f_rivals) = true)
    (a_gets_past : PySem.W.nsIn K mainGlobals "_gets_past" = some (some (.ref f_gets_past))) (l_gets_past : K.lookup f_gets_past = some ⟨oc_gets_past, od_gets_past, .func (PySem.W.fnOf "_gets_past" "_gets_past" (defArgs s_gets_past) (defBody s_gets_past) (defScope s_gets_past) .none kV_gets_past dc_gets_past pm_gets_past an_gets_past cd_gets_past ct_gets_past), sl_gets_past⟩) (c_gets_past : PySem.W.codeIn K cd_gets_past "_gets_past" = true) (k_gets_past : PySem.W.keepIn K (.ref f_gets_past) = true)
    (a_blockers : PySem.W.nsIn K mainGlobals "_blockers" = some (some (.ref f_blockers))) (l_blockers : K.lookup f_blockers = some ⟨oc_blockers, od_blockers, .func (PySem.W.fnOf "_blockers" "_blockers" (defArgs s_blockers) (defBody s_blockers) (defScope s_blockers) .none kV_blockers dc_blockers pm_blockers an_blockers cd_blockers ct_blockers), sl_blockers⟩) (c_blockers : PySem.W.codeIn K cd_blockers "_blockers" = true) (k_blockers : PySem.W.keepIn K (.ref f_blockers) = true)
    (a_survey : PySem.W.nsIn K mainGlobals "survey" = some (some (.ref f_survey))) (l_survey : K.lookup f_survey = some ⟨oc_survey, od_survey, .func (PySem.W.fnOf "survey" "survey" (defArgs s_survey) (defBody s_survey) (defScope s_survey) .none kV_survey dc_survey pm_survey an_survey cd_survey ct_survey), sl_survey⟩) (c_survey : PySem.W.codeIn K cd_survey "survey" = true) (k_survey : PySem.W.keepIn K (.ref f_survey) = true)
    (a_law_cell : PySem.W.nsIn K mainGlobals "_law_cell" = some (some (.ref f_law_cell))) (l_law_cell : K.lookup f_law_cell = some ⟨oc_law_cell, od_law_cell, .func (PySem.W.fnOf "_law_cell" "_law_cell" (defArgs s_law_cell) (defBody s_law_cell) (defScope s_law_cell) .none kV_law_cell dc_law_cell pm_law_cell an_law_cell cd_law_cell ct_law_cell), sl_law_cell⟩) (c_law_cell : PySem.W.codeIn K cd_law_cell "_law_cell" = true) (k_law_cell : PySem.W.keepIn K (.ref f_law_cell) = true)
    (a_law_draws : PySem.W.nsIn K mainGlobals "_law_draws" = some (some (.ref f_law_draws))) (l_law_draws : K.lookup f_law_draws = some ⟨oc_law_draws, od_law_draws, .func (PySem.W.fnOf "_law_draws" "_law_draws" (defArgs s_law_draws) (defBody s_law_draws) (defScope s_law_draws) .none kV_law_draws dc_law_draws pm_law_draws an_law_draws cd_law_draws ct_law_draws), sl_law_draws⟩) (c_law_draws : PySem.W.codeIn K cd_law_draws "_law_draws" = true) (k_law_draws : PySem.W.keepIn K (.ref f_law_draws) = true)
    (a_law_same : PySem.W.nsIn K mainGlobals "_law_same" = some (some (.ref f_law_same))) (l_law_same : K.lookup f_law_same = some ⟨oc_law_same, od_law_same, .func (PySem.W.fnOf "_law_same" "_law_same" (defArgs s_law_same) (defBody s_law_same) (defScope s_law_same) .none kV_law_same dc_law_same pm_law_same an_law_same cd_law_same ct_law_same), sl_law_same⟩) (c_law_same : PySem.W.codeIn K cd_law_same "_law_same" = true) (k_law_same : PySem.W.keepIn K (.ref f_law_same) = true)
    (a_law_words : PySem.W.nsIn K mainGlobals "_law_words" = some (some (.ref f_law_words))) (l_law_words : K.lookup f_law_words = some ⟨oc_law_words, od_law_words, .func (PySem.W.fnOf "_law_words" "_law_words" (defArgs s_law_words) (defBody s_law_words) (defScope s_law_words) .none kV_law_words dc_law_words pm_law_words an_law_words cd_law_words ct_law_words), sl_law_words⟩) (c_law_words : PySem.W.codeIn K cd_law_words "_law_words" = true) (k_law_words : PySem.W.keepIn K (.ref f_law_words) = true)
    (a_law_worths : PySem.W.nsIn K mainGlobals "_law_worths" = some (some (.ref f_law_worths))) (l_law_worths : K.lookup f_law_worths = some ⟨oc_law_worths, od_law_worths, .func (PySem.W.fnOf "_law_worths" "_law_worths" (defArgs s_law_worths) (defBody s_law_worths) (defScope s_law_worths) .none kV_law_worths dc_law_worths pm_law_worths an_law_worths cd_law_worths ct_law_worths), sl_law_worths⟩) (c_law_worths : PySem.W.codeIn K cd_law_worths "_law_worths" = true) (k_law_worths : PySem.W.keepIn K (.ref f_law_worths) = true)
    (a_law_matcher : PySem.W.nsIn K mainGlobals "_law_matcher" = some (some (.ref f_law_matcher))) (l_law_matcher : K.lookup f_law_matcher = some ⟨oc_law_matcher, od_law_matcher, .func (PySem.W.fnOf "_law_matcher" "_law_matcher" (defArgs s_law_matcher) (defBody s_law_matcher) (defScope s_law_matcher) .none kV_law_matcher dc_law_matcher pm_law_matcher an_law_matcher cd_law_matcher ct_law_matcher), sl_law_matcher⟩) (c_law_matcher : PySem.W.codeIn K cd_law_matcher "_law_matcher" = true) (k_law_matcher : PySem.W.keepIn K (.ref f_law_matcher) = true)
    (a_law_value : PySem.W.nsIn K mainGlobals "_law_value" = some (some (.ref f_law_value))) (l_law_value : K.lookup f_law_value = some ⟨oc_law_value, od_law_value, .func (PySem.W.fnOf "_law_value" "_law_value" (defArgs s_law_value) (defBody s_law_value) (defScope s_law_value) .none kV_law_value dc_law_value pm_law_value an_law_value cd_law_value ct_law_value), sl_law_value⟩) (c_law_value : PySem.W.codeIn K cd_law_value "_law_value" = true) (k_law_value : PySem.W.keepIn K (.ref f_law_value) = true)
    (a_law_matches : PySem.W.nsIn K mainGlobals "_law_matches" = some (some (.ref f_law_matches))) (l_law_matches : K.lookup f_law_matches = some ⟨oc_law_matches, od_law_matches, .func (PySem.W.fnOf "_law_matches" "_law_matches" (defArgs s_law_matches) (defBody s_law_matches) (defScope s_law_matches) .none kV_law_matches dc_law_matches pm_law_matches an_law_matches cd_law_matches ct_law_matches), sl_law_matches⟩) (c_law_matches : PySem.W.codeIn K cd_law_matches "_law_matches" = true) (k_law_matches : PySem.W.keepIn K (.ref f_law_matches) = true)
    (a_law_route : PySem.W.nsIn K mainGlobals "_law_route" = some (some (.ref f_law_route))) (l_law_route : K.lookup f_law_route = some ⟨oc_law_route, od_law_route, .func (PySem.W.fnOf "_law_route" "_law_route" (defArgs s_law_route) (defBody s_law_route) (defScope s_law_route) .none kV_law_route dc_law_route pm_law_route an_law_route cd_law_route ct_law_route), sl_law_route⟩) (c_law_route : PySem.W.codeIn K cd_law_route "_law_route" = true) (k_law_route : PySem.W.keepIn K (.ref f_law_route) = true)
    (a_law_tree : PySem.W.nsIn K mainGlobals "_law_tree" = some (some (.ref f_law_tree))) (l_law_tree : K.lookup f_law_tree = some ⟨oc_law_tree, od_law_tree, .func (PySem.W.fnOf "_law_tree" "_law_tree" (defArgs s_law_tree) (defBody s_law_tree) (defScope s_law_tree) .none kV_law_tree dc_law_tree pm_law_tree an_law_tree cd_law_tree ct_law_tree), sl_law_tree⟩) (c_law_tree : PySem.W.codeIn K cd_law_tree "_law_tree" = true) (k_law_tree : PySem.W.keepIn K (.ref f_law_tree) = true)
    (a_law_times : PySem.W.nsIn K mainGlobals "_law_times" = some (some (.ref f_law_times))) (l_law_times : K.lookup f_law_times = some ⟨oc_law_times, od_law_times, .func (PySem.W.fnOf "_law_times" "_law_times" (defArgs s_law_times) (defBody s_law_times) (defScope s_law_times) .none kV_law_times dc_law_times pm_law_times an_law_times cd_law_times ct_law_times), sl_law_times⟩) (c_law_times : PySem.W.codeIn K cd_law_times "_law_times" = true) (k_law_times : PySem.W.keepIn K (.ref f_law_times) = true)
    (a_law_samples : PySem.W.nsIn K mainGlobals "_law_samples" = some (some (.ref f_law_samples))) (l_law_samples : K.lookup f_law_samples = some ⟨oc_law_samples, od_law_samples, .func (PySem.W.fnOf "_law_samples" "_law_samples" (defArgs s_law_samples) (defBody s_law_samples) (defScope s_law_samples) .none kV_law_samples dc_law_samples pm_law_samples an_law_samples cd_law_samples ct_law_samples), sl_law_samples⟩) (c_law_samples : PySem.W.codeIn K cd_law_samples "_law_samples" = true) (k_law_samples : PySem.W.keepIn K (.ref f_law_samples) = true)
    (a_law_case : PySem.W.nsIn K mainGlobals "_law_case" = some (some (.ref f_law_case))) (l_law_case : K.lookup f_law_case = some ⟨oc_law_case, od_law_case, .func (PySem.W.fnOf "_law_case" "_law_case" (defArgs s_law_case) (defBody s_law_case) (defScope s_law_case) .none kV_law_case dc_law_case pm_law_case an_law_case cd_law_case ct_law_case), sl_law_case⟩) (c_law_case : PySem.W.codeIn K cd_law_case "_law_case" = true) (k_law_case : PySem.W.keepIn K (.ref f_law_case) = true)
    (a_law_line : PySem.W.nsIn K mainGlobals "_law_line" = some (some (.ref f_law_line))) (l_law_line : K.lookup f_law_line = some ⟨oc_law_line, od_law_line, .func (PySem.W.fnOf "_law_line" "_law_line" (defArgs s_law_line) (defBody s_law_line) (defScope s_law_line) .none kV_law_line dc_law_line pm_law_line an_law_line cd_law_line ct_law_line), sl_law_line⟩) (c_law_line : PySem.W.codeIn K cd_law_line "_law_line" = true) (k_law_line : PySem.W.keepIn K (.ref f_law_line) = true)
    (a_law_past : PySem.W.nsIn K mainGlobals "_law_past" = some (some (.ref f_law_past))) (l_law_past : K.lookup f_law_past = some ⟨oc_law_past, od_law_past, .func (PySem.W.fnOf "_law_past" "_law_past" (defArgs s_law_past) (defBody s_law_past) (defScope s_law_past) .none kV_law_past dc_law_past pm_law_past an_law_past cd_law_past ct_law_past), sl_law_past⟩) (c_law_past : PySem.W.codeIn K cd_law_past "_law_past" = true) (k_law_past : PySem.W.keepIn K (.ref f_law_past) = true)
    (a_law : PySem.W.nsIn K mainGlobals "law" = some (some (.ref f_law))) (l_law : K.lookup f_law = some ⟨oc_law, od_law, .func (PySem.W.fnOf "law" "law" (defArgs s_law) (defBody s_law) (defScope s_law) .none kV_law dc_law pm_law an_law cd_law ct_law), sl_law⟩) (c_law : PySem.W.codeIn K cd_law "law" = true) (k_law : PySem.W.keepIn K (.ref f_law) = true)
    (v_MOST_SAMPLES : PySem.W.nsIn K mainGlobals "MOST_SAMPLES" = some (some (.int 300 t_MOST_SAMPLES)))
    (xg_TooManySamples : PySem.W.nsIn K mainGlobals "TooManySamples" = some (some (.ref A_TooManySamples)))
    (xb_TooManySamples : PySem.W.subIn K (.ref A_TooManySamples) (.type "BaseException") = some true)
    (xt_TooManySamples : PySem.W.typeIn K (.ref A_TooManySamples) = some (.type "type"))
    (xd_TooManySamples : PySem.W.hasDictIn K A_TooManySamples = true)
    (xe_TooManySamples : PySem.W.excIn K A_TooManySamples [.type "ValueError", .type "Exception", .type "BaseException", .type "object"] "ValueError.__new__" = true)
    (xk_TooManySamples : PySem.W.keepIn K (.ref A_TooManySamples) = true)
    (z_all : PySem.W.nsIn K mainGlobals "all" = some none)
    (z_any : PySem.W.nsIn K mainGlobals "any" = some none)
    (z_bool : PySem.W.nsIn K mainGlobals "bool" = some none)
    (z_enumerate : PySem.W.nsIn K mainGlobals "enumerate" = some none)
    (z_int : PySem.W.nsIn K mainGlobals "int" = some none)
    (z_isinstance : PySem.W.nsIn K mainGlobals "isinstance" = some none)
    (z_len : PySem.W.nsIn K mainGlobals "len" = some none)
    (z_list : PySem.W.nsIn K mainGlobals "list" = some none)
    (z_range : PySem.W.nsIn K mainGlobals "range" = some none)
    (z_sorted : PySem.W.nsIn K mainGlobals "sorted" = some none)
    (z_str : PySem.W.nsIn K mainGlobals "str" = some none)
    (z_tuple : PySem.W.nsIn K mainGlobals "tuple" = some none)
    (z_zip : PySem.W.nsIn K mainGlobals "zip" = some none) :
    ∃ fd : FuncData, (∀ (s : Shared) (v : Value), BindsTo s fd ⟨[v], []⟩ [("_law_script", v)]) ∧ ∀ base : Heap, K.In base → base.Ns mainGlobals mg → FnOk l.prog w K mg base (L2.CX l.prog w) 10 fa fd ["_law_script"] (spL K 1 law_f) := by
  have e := hfa.symm.trans (PySem.W.mg_of X G a_law)
  cases e
  let cm : Nat → Addr × List Str := fun n => match n with | 0 => (A_TooManySamples, []) | _ => (0, [])
  have Bz : Bl K mg cm A_TooManySamples := ⟨PySem.W.mg_none_of X G z_all, PySem.W.mg_none_of X G z_any, PySem.W.mg_none_of X G z_bool, PySem.W.mg_none_of X G z_enumerate, PySem.W.mg_none_of X G z_int, PySem.W.mg_none_of X G z_isinstance, PySem.W.mg_none_of X G z_len, PySem.W.mg_none_of X G z_list, PySem.W.mg_none_of X G z_range, PySem.W.mg_none_of X G z_sorted, PySem.W.mg_none_of X G z_str, PySem.W.mg_none_of X G z_tuple, PySem.W.mg_none_of X G z_zip, rfl, ⟨PySem.W.mg_of X G xg_TooManySamples, xe_TooManySamples, xk_TooManySamples, xb_TooManySamples, xt_TooManySamples⟩, PySem.W.mg_of X G xg_TooManySamples⟩
  have F_value_of := fun_mk (st := s_value_of) l_value_of c_value_of k_value_of
  have T_value_of : Fn K mg "value_of" s_value_of ["labels", "name"] _ _ := ⟨F_value_of, F_value_of.binds (ps := ["labels", "name"]) fun _ _ _ _ _ _ us hl => match us, hl with | [_, _], _ => rfl, PySem.W.mg_of X G a_value_of⟩
  have F_matches := fun_mk (st := s_matches) l_matches c_matches k_matches
  have T_matches : Fn K mg "matches" s_matches ["matcher", "labels"] _ _ := ⟨F_matches, F_matches.binds (ps := ["matcher", "labels"]) fun _ _ _ _ _ _ us hl => match us, hl with | [_, _], _ => rfl, PySem.W.mg_of X G a_matches⟩
  have F_matches_all := fun_mk (st := s_matches_all) l_matches_all c_matches_all k_matches_all
  have T_matches_all : Fn K mg "matches_all" s_matches_all ["matchers", "labels"] _ _ := ⟨F_matches_all, F_matches_all.binds (ps := ["matchers", "labels"]) fun _ _ _ _ _ _ us hl => match us, hl with | [_, _], _ => rfl, PySem.W.mg_of X G a_matches_all⟩
  have F_later := fun_mk (st := s_later) l_later c_later k_later
  have T_later : Fn K mg "_later" s_later ["routes", "at", "labels"] _ _ := ⟨F_later, F_later.binds (ps := ["routes", "at", "labels"]) fun _ _ _ _ _ _ us hl => match us, hl with | [_, _, _], _ => rfl, PySem.W.mg_of X G a_later⟩
  have F_way := fun_mk (st := s_way) l_way c_way k_way
  have T_way : Fn K mg "way" s_way ["routes", "labels"] _ _ := ⟨F_way, F_way.binds (ps := ["routes", "labels"]) fun _ _ _ _ _ _ us hl => match us, hl with | [_, _], _ => rfl, PySem.W.mg_of X G a_way⟩
  have F_choices := fun_mk (st := s_choices) l_choices c_choices k_choices
  have T_choices : Fn K mg "_choices" s_choices ["matchers", "name"] _ _ := ⟨F_choices, F_choices.binds (ps := ["matchers", "name"]) fun _ _ _ _ _ _ us hl => match us, hl with | [_, _], _ => rfl, PySem.W.mg_of X G a_choices⟩
  have F_count := fun_mk (st := s_count) l_count c_count k_count
  have T_count : Fn K mg "_count" s_count ["rows"] _ _ := ⟨F_count, F_count.binds (ps := ["rows"]) fun _ _ _ _ _ _ us hl => match us, hl with | [_], _ => rfl, PySem.W.mg_of X G a_count⟩
  have F_sample_alerts := fun_mk (st := s_sample_alerts) l_sample_alerts c_sample_alerts k_sample_alerts
  have T_sample_alerts : Fn K mg "sample_alerts" s_sample_alerts ["matchers"] _ _ := ⟨F_sample_alerts, F_sample_alerts.binds (ps := ["matchers"]) fun _ _ _ _ _ _ us hl => match us, hl with | [_], _ => rfl, PySem.W.mg_of X G a_sample_alerts⟩
  have F_matchers_of := fun_mk (st := s_matchers_of) l_matchers_of c_matchers_of k_matchers_of
  have T_matchers_of : Fn K mg "_matchers_of" s_matchers_of ["routes"] _ _ := ⟨F_matchers_of, F_matchers_of.binds (ps := ["routes"]) fun _ _ _ _ _ _ us hl => match us, hl with | [_], _ => rfl, PySem.W.mg_of X G a_matchers_of⟩
  have F_considered := fun_mk (st := s_considered) l_considered c_considered k_considered
  have T_considered : Fn K mg "_considered" s_considered ["must", "matchers"] _ _ := ⟨F_considered, F_considered.binds (ps := ["must", "matchers"]) fun _ _ _ _ _ _ us hl => match us, hl with | [_, _], _ => rfl, PySem.W.mg_of X G a_considered⟩
  have F_lineage := fun_mk (st := s_lineage) l_lineage c_lineage k_lineage
  have T_lineage : Fn K mg "_lineage" s_lineage ["routes", "number"] _ _ := ⟨F_lineage, F_lineage.binds (ps := ["routes", "number"]) fun _ _ _ _ _ _ us hl => match us, hl with | [_, _], _ => rfl, PySem.W.mg_of X G a_lineage⟩
  have F_rivals := fun_mk (st := s_rivals) l_rivals c_rivals k_rivals
  have T_rivals : Fn K mg "_rivals" s_rivals ["routes", "number"] _ _ := ⟨F_rivals, F_rivals.binds (ps := ["routes", "number"]) fun _ _ _ _ _ _ us hl => match us, hl with | [_, _], _ => rfl, PySem.W.mg_of X G a_rivals⟩
  have F_gets_past := fun_mk (st := s_gets_past) l_gets_past c_gets_past k_gets_past
  have T_gets_past : Fn K mg "_gets_past" s_gets_past ["routes", "line", "rivals", "labels"] _ _ := ⟨F_gets_past, F_gets_past.binds (ps := ["routes", "line", "rivals", "labels"]) fun _ _ _ _ _ _ us hl => match us, hl with | [_, _, _, _], _ => rfl, PySem.W.mg_of X G a_gets_past⟩
  have F_blockers := fun_mk (st := s_blockers) l_blockers c_blockers k_blockers
  have T_blockers : Fn K mg "_blockers" s_blockers ["routes", "alerts", "number"] _ _ := ⟨F_blockers, F_blockers.binds (ps := ["routes", "alerts", "number"]) fun _ _ _ _ _ _ us hl => match us, hl with | [_, _, _], _ => rfl, PySem.W.mg_of X G a_blockers⟩
  have F_survey := fun_mk (st := s_survey) l_survey c_survey k_survey
  have T_survey : Fn K mg "survey" s_survey ["routes", "must"] _ _ := ⟨F_survey, F_survey.binds (ps := ["routes", "must"]) fun _ _ _ _ _ _ us hl => match us, hl with | [_, _], _ => rfl, PySem.W.mg_of X G a_survey⟩
  have F_law_cell := fun_mk (st := s_law_cell) l_law_cell c_law_cell k_law_cell
  have T_law_cell : Fn K mg "_law_cell" s_law_cell ["_law_script", "_law_k"] _ _ := ⟨F_law_cell, F_law_cell.binds (ps := ["_law_script", "_law_k"]) fun _ _ _ _ _ _ us hl => match us, hl with | [_, _], _ => rfl, PySem.W.mg_of X G a_law_cell⟩
  have F_law_draws := fun_mk (st := s_law_draws) l_law_draws c_law_draws k_law_draws
  have T_law_draws : Fn K mg "_law_draws" s_law_draws ["_law_cell_here", "_law_many"] _ _ := ⟨F_law_draws, F_law_draws.binds (ps := ["_law_cell_here", "_law_many"]) fun _ _ _ _ _ _ us hl => match us, hl with | [_, _], _ => rfl, PySem.W.mg_of X G a_law_draws⟩
  have F_law_same := fun_mk (st := s_law_same) l_law_same c_law_same k_law_same
  have T_law_same : Fn K mg "_law_same" s_law_same ["_law_told", "_law_due"] _ _ := ⟨F_law_same, F_law_same.binds (ps := ["_law_told", "_law_due"]) fun _ _ _ _ _ _ us hl => match us, hl with | [_, _], _ => rfl, PySem.W.mg_of X G a_law_same⟩
  have F_law_words := fun_mk (st := s_law_words) l_law_words c_law_words k_law_words
  have T_law_words : Fn K mg "_law_words" s_law_words ["_law_cell_here", "_law_many"] _ _ := ⟨F_law_words, F_law_words.binds (ps := ["_law_cell_here", "_law_many"]) fun _ _ _ _ _ _ us hl => match us, hl with | [_, _], _ => rfl, PySem.W.mg_of X G a_law_words⟩
  have F_law_worths := fun_mk (st := s_law_worths) l_law_worths c_law_worths k_law_worths
  have T_law_worths : Fn K mg "_law_worths" s_law_worths ["_law_cell_here", "_law_many"] _ _ := ⟨F_law_worths, F_law_worths.binds (ps := ["_law_cell_here", "_law_many"]) fun _ _ _ _ _ _ us hl => match us, hl with | [_, _], _ => rfl, PySem.W.mg_of X G a_law_worths⟩
  have F_law_matcher := fun_mk (st := s_law_matcher) l_law_matcher c_law_matcher k_law_matcher
  have T_law_matcher : Fn K mg "_law_matcher" s_law_matcher ["_law_first", "_law_second", "_law_names", "_law_worths_here"] _ _ := ⟨F_law_matcher, F_law_matcher.binds (ps := ["_law_first", "_law_second", "_law_names", "_law_worths_here"]) fun _ _ _ _ _ _ us hl => match us, hl with | [_, _, _, _], _ => rfl, PySem.W.mg_of X G a_law_matcher⟩
  have F_law_value := fun_mk (st := s_law_value) l_law_value c_law_value k_law_value
  have T_law_value : Fn K mg "_law_value" s_law_value ["_law_labels_here", "_law_name"] _ _ := ⟨F_law_value, F_law_value.binds (ps := ["_law_labels_here", "_law_name"]) fun _ _ _ _ _ _ us hl => match us, hl with | [_, _], _ => rfl, PySem.W.mg_of X G a_law_value⟩
  have F_law_matches := fun_mk (st := s_law_matches) l_law_matches c_law_matches k_law_matches
  have T_law_matches : Fn K mg "_law_matches" s_law_matches ["_law_matchers", "_law_labels_here"] _ _ := ⟨F_law_matches, F_law_matches.binds (ps := ["_law_matchers", "_law_labels_here"]) fun _ _ _ _ _ _ us hl => match us, hl with | [_, _], _ => rfl, PySem.W.mg_of X G a_law_matches⟩
  have F_law_route := fun_mk (st := s_law_route) l_law_route c_law_route k_law_route
  have T_law_route : Fn K mg "_law_route" s_law_route ["_law_cell_here", "_law_place", "_law_names", "_law_worths_here", "_law_ladders", "_law_shutters"] _ _ := ⟨F_law_route, F_law_route.binds (ps := ["_law_cell_here", "_law_place", "_law_names", "_law_worths_here", "_law_ladders", "_law_shutters"]) fun _ _ _ _ _ _ us hl => match us, hl with | [_, _, _, _, _, _], _ => rfl, PySem.W.mg_of X G a_law_route⟩
  have F_law_tree := fun_mk (st := s_law_tree) l_law_tree c_law_tree k_law_tree
  have T_law_tree : Fn K mg "_law_tree" s_law_tree ["_law_script", "_law_first", "_law_last", "_law_names", "_law_worths_here"] _ _ := ⟨F_law_tree, F_law_tree.binds (ps := ["_law_script", "_law_first", "_law_last", "_law_names", "_law_worths_here"]) fun _ _ _ _ _ _ us hl => match us, hl with | [_, _, _, _, _], _ => rfl, PySem.W.mg_of X G a_law_tree⟩
  have F_law_times := fun_mk (st := s_law_times) l_law_times c_law_times k_law_times
  have T_law_times : Fn K mg "_law_times" s_law_times ["_law_rows", "_law_name", "_law_choices"] _ _ := ⟨F_law_times, F_law_times.binds (ps := ["_law_rows", "_law_name", "_law_choices"]) fun _ _ _ _ _ _ us hl => match us, hl with | [_, _, _], _ => rfl, PySem.W.mg_of X G a_law_times⟩
  have F_law_samples := fun_mk (st := s_law_samples) l_law_samples c_law_samples k_law_samples
  have T_law_samples : Fn K mg "_law_samples" s_law_samples ["_law_matchers"] _ _ := ⟨F_law_samples, F_law_samples.binds (ps := ["_law_matchers"]) fun _ _ _ _ _ _ us hl => match us, hl with | [_], _ => rfl, PySem.W.mg_of X G a_law_samples⟩
  have F_law_case := fun_mk (st := s_law_case) l_law_case c_law_case k_law_case
  have T_law_case : Fn K mg "_law_case" s_law_case ["_law_script"] _ _ := ⟨F_law_case, F_law_case.binds (ps := ["_law_script"]) fun _ _ _ _ _ _ us hl => match us, hl with | [_], _ => rfl, PySem.W.mg_of X G a_law_case⟩
  have F_law_line := fun_mk (st := s_law_line) l_law_line c_law_line k_law_line
  have T_law_line : Fn K mg "_law_line" s_law_line ["_law_tree_here", "_law_k"] _ _ := ⟨F_law_line, F_law_line.binds (ps := ["_law_tree_here", "_law_k"]) fun _ _ _ _ _ _ us hl => match us, hl with | [_, _], _ => rfl, PySem.W.mg_of X G a_law_line⟩
  have F_law_past := fun_mk (st := s_law_past) l_law_past c_law_past k_law_past
  have T_law_past : Fn K mg "_law_past" s_law_past ["_law_tree_here", "_law_line_here", "_law_rivals", "_law_found"] _ _ := ⟨F_law_past, F_law_past.binds (ps := ["_law_tree_here", "_law_line_here", "_law_rivals", "_law_found"]) fun _ _ _ _ _ _ us hl => match us, hl with | [_, _, _, _], _ => rfl, PySem.W.mg_of X G a_law_past⟩
  have F_law := fun_mk (st := s_law) l_law c_law k_law
  have T_law : Fn K mg "law" s_law ["_law_script"] _ _ := ⟨F_law, F_law.binds (ps := ["_law_script"]) fun _ _ _ _ _ _ us hl => match us, hl with | [_], _ => rfl, PySem.W.mg_of X G a_law⟩
  exact ⟨PySem.W.fnOf "law" "law" (defArgs s_law) (defBody s_law) (defScope s_law) .none kV_law dc_law pm_law an_law cd_law ct_law, fun s v => .of_eq rfl, fun base _ _ => spL_ok (cm := cm) (ok_law Bz ⟨trivial, PySem.W.mg_of X G v_MOST_SAMPLES⟩ T_law_case T_law_words T_law_cell T_law_worths T_law_tree T_law_route T_law_draws T_law_matcher T_law_samples T_law_times T_law_matches T_law_value T_survey T_considered T_sample_alerts T_choices T_count T_matches_all T_matches T_value_of T_matchers_of T_way T_later T_blockers T_lineage T_rivals T_gets_past T_law_line T_law_past T_law_same T_law)⟩
end K43
namespace K43
open PySem PySem.Spec PyProof.Rows L2 Pl
theorem draws_eq : law_draws_f = drawsF := rfl
theorem cell_eq : law_cell_f = cellF := rfl
theorem same_rows (n : Nat) (ih : ∀ x : D, wfD n x = true → law_same_r n [x, x] = .ok (.d (.bool true))) (xs : List D) (hx : ∀ y ∈ xs, wfD n y = true) (v : SV) (hv : v = .d (.list xs) ∨ v = .d (.tuple xs)) :
    forF (setD 2) (law_same_w1 (law_same_r n)) (rng 0 xs.length) [some v, some v, none] = .ok (.nx [some v, some v, none]) := by
  obtain ⟨ρ', h1, h2⟩ := forF_inv (k := setD 2) (b := law_same_w1 (law_same_r n)) (fun _ ρ => ρ = [some v, some v, none]) (rng 0 xs.length) _ rfl (by
    rintro i x _ hi rfl
    obtain ⟨rfl, hlt⟩ := rng_at hi
    have hlt' : i < xs.length := by omega
    have e : atI xs (i : Int) = some (xs[i]'hlt') := atI_nat (List.getElem?_eq_getElem hlt')
    have ih' := ih (xs[i]'hlt') (hx _ (List.getElem_mem _))
    refine ⟨_, [some v, some v, none], rfl, .inl ?_, rfl⟩
    unfold law_same_w1
    rcases hv with rfl | rfl <;> simp [e, ih'])
  subst h2; exact h1
theorem same_ok (n : Nat) : ∀ (x : D), wfD n x = true → law_same_r n [x, x] = .ok (.d (.bool true)) := by
  induction n with
  | zero => intro x h; cases h
  | succ n ih =>
    intro x h
    unfold law_same_r runB law_same_b startE
    cases x with
    | none => simp
    | bool b => cases b <;> simp
    | int i => simp
    | str s => simp
    | list xs =>
      simp only [wfD, Bool.and_eq_true, List.all_eq_true, decide_eq_true_eq] at h
      have hr := same_rows n ih xs h.2 _ (.inl rfl)
      have hb : okR (xs.length : Int) = true := okR_of (by omega) (by have := h.1; omega)
      simp [hr, hb]
    | tuple xs =>
      simp only [wfD, Bool.and_eq_true, List.all_eq_true, decide_eq_true_eq] at h
      have hr := same_rows n ih xs h.2 _ (.inr rfl)
      have hb : okR (xs.length : Int) = true := okR_of (by omega) (by have := h.1; omega)
      simp [hr, hb]
    | dict xs => cases h
theorem words_ok (c m : Int) (h0 : 0 ≤ m) (hm : m ≤ 1000) : ∃ ws : List Str, law_words_f [.int c, .int m] = .ok (.ol (ws.map PyData.str)) ∧ ws.length = m.toNat ∧ ∀ w ∈ ws, w.length ≤ 8 := by
  have hz := line16
  have hp := imodN (c / 26) 4 (by omega)
  have l3 : ("xyz" : Str).length = 3 := by decide +kernel
  have l4 : ("xyzw" : Str).length = 4 := by decide +kernel
  have l26 : ("abcdefghijklmnopqrstuvwxyz" : Str).length = 26 := by decide +kernel
  obtain ⟨ws, e1, e2, e3⟩ := lcF_ex PyData.str (fun w : Str => w.length ≤ 8) (k := setD 4)
    (e := (bin addS (bin addS (slice (kon (.str "xyz")) noO (someO (peek 3))) (bin ixS (peek 2) (bin modS (callB intS (conB (bin addS (callB intS (conB (peek 0) nilB)) (bin mulA (kon (.int 3)) (peek 4))) nilB)) (kon (.int 26))))) (slice (kon (.str "xyzw")) (someO (peek 3)) noO)))
    (ρ0 := [some (.d (.int c)), some (.d (.int m)), some (.d (.str "abcdefghijklmnopqrstuvwxyz")), some (.d (.int (c / 26 % 4))), none]) (rng 0 m) (by
      intro x hx
      obtain ⟨i, rfl, hi⟩ := rng_mem hx
      have hi2 := imodN (c + 3 * i) 26 (by omega)
      obtain ⟨ch, ec, lc⟩ := ixS_s "abcdefghijklmnopqrstuvwxyz" ((c + 3 * i) % 26) (by rw [l26]; omega) hi2.1 (by rw [l26]; omega)
      have la := cutS_len "xyz" none (some (c / 26 % 4))
      have lb := cutS_len "xyzw" (some (c / 26 % 4)) none
      rw [l3] at la; rw [l4] at lb
      have lab := len_app (cutS "xyz" none (some (c / 26 % 4))) ch
      have labc := len_app (cutS "xyz" none (some (c / 26 % 4)) ++ ch) (cutS "xyzw" (some (c / 26 % 4)) none)
      have ea := addS_s (cutS "xyz" none (some (c / 26 % 4))) ch (by omega) (by omega)
      have eb := addS_s (cutS "xyz" none (some (c / 26 % 4)) ++ ch) (cutS "xyzw" (some (c / 26 % 4)) none) (by omega) (by omega)
      have sa := slS_s "xyz" none (some (c / 26 % 4)) (by rw [l3]; omega)
      have sb := slS_s "xyzw" (some (c / 26 % 4)) none (by rw [l4]; omega)
      exact ⟨_, .d (.str (cutS "xyz" none (some (c / 26 % 4)) ++ ch ++ cutS "xyzw" (some (c / 26 % 4)) none)), _, rfl, by simp [ec, ea, eb, sa, sb], rfl, by omega⟩)
  refine ⟨ws, ?_, by rw [e2, rng_len]; congr 1; omega, e3⟩
  have hl : m.toNat < sizeLine := by omega
  have hR : okR m = true := okR_of (by omega) (by omega)
  unfold law_words_f runB law_words_b startE
  simp [hR, hl, e1]
theorem worths_ok (c m : Int) (h0 : 0 ≤ m) (hm : m ≤ 1000) : ∃ ws : List Str, law_worths_f [.int c, .int m] = .ok (.ol (ws.map PyData.str)) ∧ ws.length = m.toNat ∧ ∀ w ∈ ws, w.length ≤ 8 ∧ 1 ≤ w.length := by
  have hz := line16
  have hp := imodN (c / 37) 3 (by omega)
  have l3 : ("v7_" : Str).length = 3 := by decide +kernel
  have l4 : ("0_" : Str).length = 2 := by decide +kernel
  have l37 : ("0123456789_abcdefghijklmnopqrstuvwxyz" : Str).length = 37 := by decide +kernel
  obtain ⟨ws, e1, e2, e3⟩ := lcF_ex PyData.str (fun w : Str => w.length ≤ 8 ∧ 1 ≤ w.length) (k := setD 4)
    (e := (bin addS (bin addS (slice (kon (.str "v7_")) noO (someO (peek 3))) (bin ixS (peek 2) (bin modS (callB intS (conB (bin addS (callB intS (conB (peek 0) nilB)) (bin mulA (kon (.int 5)) (peek 4))) nilB)) (kon (.int 37))))) (slice (kon (.str "0_")) (someO (peek 3)) noO)))
    (ρ0 := [some (.d (.int c)), some (.d (.int m)), some (.d (.str "0123456789_abcdefghijklmnopqrstuvwxyz")), some (.d (.int (c / 37 % 3))), none]) (rng 0 m) (by
      intro x hx
      obtain ⟨i, rfl, hi⟩ := rng_mem hx
      have hi2 := imodN (c + 5 * i) 37 (by omega)
      obtain ⟨ch, ec, lc⟩ := ixS_s "0123456789_abcdefghijklmnopqrstuvwxyz" ((c + 5 * i) % 37) (by rw [l37]; omega) hi2.1 (by rw [l37]; omega)
      have la := cutS_len "v7_" none (some (c / 37 % 3))
      have lb := cutS_len "0_" (some (c / 37 % 3)) none
      rw [l3] at la; rw [l4] at lb
      have lab := len_app (cutS "v7_" none (some (c / 37 % 3))) ch
      have labc := len_app (cutS "v7_" none (some (c / 37 % 3)) ++ ch) (cutS "0_" (some (c / 37 % 3)) none)
      have ea := addS_s (cutS "v7_" none (some (c / 37 % 3))) ch (by omega) (by omega)
      have eb := addS_s (cutS "v7_" none (some (c / 37 % 3)) ++ ch) (cutS "0_" (some (c / 37 % 3)) none) (by omega) (by omega)
      have sa := slS_s "v7_" none (some (c / 37 % 3)) (by rw [l3]; omega)
      have sb := slS_s "0_" (some (c / 37 % 3)) none (by rw [l4]; omega)
      exact ⟨_, .d (.str (cutS "v7_" none (some (c / 37 % 3)) ++ ch ++ cutS "0_" (some (c / 37 % 3)) none)), _, rfl, by simp [ec, ea, eb, sa, sb], rfl, by omega⟩)
  refine ⟨ws, ?_, by rw [e2, rng_len]; congr 1; omega, e3⟩
  have hl : m.toNat < sizeLine := by omega
  have hR : okR m = true := okR_of (by omega) (by omega)
  unfold law_worths_f runB law_worths_b startE
  simp [hR, hl, e1]
theorem value_of_ok (l : Lab) (n : Str) : value_of_f [encB l, .str n] = .ok (.d (.str (valL l n))) := val_body l n (b := value_of_w1) rfl rfl
theorem matches_ok (m : Mat) (l : Lab) : matches_f [encMt m, encB l] = .ok (.d (.bool (matM m l))) := by
  have h1 := value_of_ok l m.nm
  have h2 := inS_strs false (valL l m.nm) m.vs
  have e0 : asgG (tupG 3 (gsC (setD 2) (gsC (setD 3) (gsC (setD 4) gsN)))) (getV 0) [some (.d (encMt m)), some (.d (encB l)), none, none, none, none] = .ok (.nx [some (.d (encMt m)), some (.d (encB l)), some (.d (.str m.nm)), some (.d (.tuple (m.vs.map PyData.str))), some (.d (.bool m.inn)), none]) := rfl
  have hb : ∀ ρ, ρ = [some (.d (encMt m)), some (.d (encB l)), none, none, none, none] → matches_b ρ = .ok (.rt (.d (.bool (matM m l)))) := by
    rintro _ rfl
    unfold matches_b
    refine seq_nx e0 ?_
    simp [h1, h2, matM]
  exact runB_rt (hb _ rfl) rfl
abbrev eMA (M l : D) (x : Option SV) : En := [some (.d M), some (.d l), x]
theorem mall_loop (M : D) (l : Lab) : ∀ u : List Mat, forF (setD 2) matches_all_w1 (u.map encMt) (eMA M (encB l) none) = if (u.all fun m => matM m l) = true then .ok (.nx (eMA M (encB l) none)) else .ok (.rt (.d (.bool false)))
  | [] => rfl
  | m :: u => by
    have ih := mall_loop M l u
    have hm := matches_ok m l
    rw [List.map_cons, forF, List.all_cons]
    cases hc : matM m l with
    | true =>
      rw [hc] at hm
      have e2 : matches_all_w1 [some (.d M), some (.d (encB l)), some (.d (encMt m))] = .ok (.nx (eMA M (encB l) none)) := by
        unfold matches_all_w1
        simp [hm]
      simp only [setD_ap, List.set_cons_succ, List.set_cons_zero, e2, ok_bind, Bool.true_and]
      exact ih
    | false =>
      rw [hc] at hm
      have e2 : matches_all_w1 [some (.d M), some (.d (encB l)), some (.d (encMt m))] = .ok (.rt (.d (.bool false))) := by
        unfold matches_all_w1
        simp [hm]
      simp only [setD_ap, List.set_cons_succ, List.set_cons_zero, e2, ok_bind, Bool.false_and, Bool.false_eq_true, if_false]
theorem matches_all_ok (M : D) (ms : List Mat) (l : Lab) (hM : M = .tuple (ms.map encMt) ∨ M = .list (ms.map encMt)) : matches_all_f [M, encB l] = .ok (.d (.bool (ms.all fun m => matM m l))) := by
  have h := mall_loop M l ms
  have f : forS (seqD (getV 0)) (setD 2) matches_all_w1 (eMA M (encB l) none) = if (ms.all fun m => matM m l) = true then .ok (.nx (eMA M (encB l) none)) else .ok (.rt (.d (.bool false))) := by
    rcases hM with rfl | rfl
    · exact forS_tup rfl h
    · exact forS_lst rfl h
  have hb : ∀ ρ, ρ = eMA M (encB l) none → matches_all_b ρ = .ok (.rt (.d (.bool (ms.all fun m => matM m l)))) := by
    rintro _ rfl
    unfold matches_all_b
    cases hq : ms.all fun m => matM m l with
    | true => rw [hq] at f; exact seq_nx f rfl
    | false => rw [hq] at f; exact seq_rt f
  exact runB_rt (hb _ rfl) rfl
theorem law_value_ok (l : Lab) (n : Str) : law_value_f [encB l, .str n] = .ok (.d (.str (valL l n))) := val_body l n (b := law_value_w1) rfl rfl
abbrev eLM (M l : D) (x y z : Option SV) : En := [some (.d M), some (.d l), x, y, z]
theorem lmat_loop (M : D) (l : Lab) : ∀ u : List Mat, forF (tupG 3 (gsC (setD 2) (gsC (setD 3) (gsC (setD 4) gsN)))) law_matches_w1 (u.map encMt) (eLM M (encB l) none none none) = if (u.all fun m => matM m l) = true then .ok (.nx (eLM M (encB l) none none none)) else .ok (.rt (.d (.bool false)))
  | [] => rfl
  | m :: u => by
    have ih := lmat_loop M l u
    have h1 := law_value_ok l m.nm
    have h2 := inS_strs false (valL l m.nm) m.vs
    rw [List.map_cons, forF, List.all_cons]
    have e1 : tupG 3 (gsC (setD 2) (gsC (setD 3) (gsC (setD 4) gsN))) (encMt m) (eLM M (encB l) none none none) = .ok (eLM M (encB l) (some (.d (.str m.nm))) (some (.d (.tuple (m.vs.map PyData.str)))) (some (.d (.bool m.inn)))) := rfl
    simp only [e1, ok_bind]
    cases hc : matM m l with
    | true =>
      have hc' : decide (valL l m.nm ∈ m.vs) = m.inn := by unfold matM at hc; exact of_decide_eq_true hc
      have e2 : law_matches_w1 (eLM M (encB l) (some (.d (.str m.nm))) (some (.d (.tuple (m.vs.map PyData.str)))) (some (.d (.bool m.inn)))) = .ok (.nx (eLM M (encB l) none none none)) := by
        unfold law_matches_w1
        simp [h1, h2, hc']
      simp only [e2, ok_bind, Bool.true_and]
      exact ih
    | false =>
      have hc' : ¬ decide (valL l m.nm ∈ m.vs) = m.inn := by unfold matM at hc; exact of_decide_eq_false hc
      have e2 : law_matches_w1 (eLM M (encB l) (some (.d (.str m.nm))) (some (.d (.tuple (m.vs.map PyData.str)))) (some (.d (.bool m.inn)))) = .ok (.rt (.d (.bool false))) := by
        unfold law_matches_w1
        simp [h1, h2, hc']
      simp only [e2, ok_bind, Bool.false_and, Bool.false_eq_true, if_false]
theorem law_matches_ok (M : D) (ms : List Mat) (l : Lab) (hM : M = .tuple (ms.map encMt) ∨ M = .list (ms.map encMt)) : law_matches_f [M, encB l] = .ok (.d (.bool (ms.all fun m => matM m l))) := by
  have h := lmat_loop M l ms
  have f : forS (seqD (getV 0)) (tupG 3 (gsC (setD 2) (gsC (setD 3) (gsC (setD 4) gsN)))) law_matches_w1 (eLM M (encB l) none none none) = if (ms.all fun m => matM m l) = true then .ok (.nx (eLM M (encB l) none none none)) else .ok (.rt (.d (.bool false))) := by
    rcases hM with rfl | rfl
    · exact forS_tup rfl h
    · exact forS_lst rfl h
  have hb : ∀ ρ, ρ = eLM M (encB l) none none none → law_matches_b ρ = .ok (.rt (.d (.bool (ms.all fun m => matM m l)))) := by
    rintro _ rfl
    unfold law_matches_b
    cases hq : ms.all fun m => matM m l with
    | true => rw [hq] at f; exact seq_nx f rfl
    | false => rw [hq] at f; exact seq_rt f
  exact runB_rt (hb _ rfl) rfl
structure LabI (nms ws : List Str) (P : Lab) : Prop where
  nd : (P.map Prod.fst).Nodup
  mem : ∀ p ∈ P, p.1 ∈ nms ∧ p.2 ∈ ws
theorem labels_w1_ok (ds : List Int) (nms ws : List Str) (P : Lab) (k : Int) (hI : LabI nms ws P) (hn : 0 < nms.length) (hw : 0 < ws.length) (h0 : 0 ≤ k) (h1 : k + 1 < ds.length) (hP : P.length < 1000) :
    ∃ P' : Lab, law_labels_w1 [some (.d (.list (ds.map PyData.int))), some (.d (.list (nms.map PyData.str))), some (.d (.list (ws.map PyData.str))), some (.ol (P.map encP)), some (.ol ((P.map Prod.fst).map PyData.str)), some (.d (.int k)), none]
      = .ok (.nx [some (.d (.list (ds.map PyData.int))), some (.d (.list (nms.map PyData.str))), some (.d (.list (ws.map PyData.str))), some (.ol (P'.map encP)), some (.ol ((P'.map Prod.fst).map PyData.str)), none, none]) ∧ P'.length ≤ P.length + 1 ∧ LabI nms ws P' := by
  have hz := line16
  obtain ⟨a, _, ha⟩ := atI_ints ds k h0 (by omega)
  obtain ⟨b, _, hb⟩ := atI_ints ds (k + 1) (by omega) (by omega)
  have hn' : (0 : Int) < nms.length := by omega
  have hw' : (0 : Int) < ws.length := by omega
  have ma := imodN a nms.length hn'
  have mb := imodN b ws.length hw'
  obtain ⟨x, mx, hx⟩ := atI_map PyData.str nms (a % nms.length) ma.1 ma.2
  obtain ⟨y, my, hy⟩ := atI_map PyData.str ws (b % ws.length) mb.1 mb.2
  generalize hU : P.map Prod.fst = U at *
  have hUl : U.length < 1000 := by subst hU; simpa using hP
  have hi := inS_strsO true x U
  have l1 : P.length < sizeLine := by omega
  have l2 : U.length < sizeLine := by omega
  unfold law_labels_w1
  by_cases c : x ∈ U
  · exact ⟨P, by simp [ha, hn, hn', hx, hi, c, hU], by omega, hI⟩
  · refine ⟨P ++ [(x, y)], by rw [List.map_append, List.map_append, hU]; simp [ha, hb, hn, hn', hw, hw', hx, hy, hi, c, l1, l2, encP], by simp, ?_, ?_⟩
    · rw [List.map_append, List.nodup_append]
      refine ⟨hI.nd, by simp, ?_⟩
      intro z hz w hw
      simp at hw
      subst hw
      rintro rfl
      exact c (hU ▸ hz)
    · intro p hp
      rcases List.mem_append.mp hp with hp | hp
      · exact hI.mem p hp
      · simp at hp; subst hp; exact ⟨mx, my⟩
theorem small2 (j : Int) (h : j ≤ 100000) (h0 : -100000 ≤ j) : Builtin.Range.small 0 j 2 = true := by
  have e : 0 ≤ Builtin.Range.rangeSize 0 j 2 ∧ Builtin.Range.rangeSize 0 j 2 ≤ 100000 := by
    unfold Builtin.Range.rangeSize
    simp
    split <;> omega
  unfold Builtin.Range.small Builtin.Range.rangeFitsLong
  simp
  omega
theorem labels_ok' (ds : List Int) (nms ws : List Str) (hd : ds.length ≤ 100) (hn : 0 < nms.length) (hw : 0 < ws.length) : ∃ l : Lab, law_labels_f [.list (ds.map PyData.int), .list (nms.map PyData.str), .list (ws.map PyData.str)] = .ok (.d (encB l)) ∧ l.length ≤ 100 ∧ Asc l ∧ ∀ p ∈ l, p.1 ∈ nms ∧ p.2 ∈ ws := by
  have hz := line16
  generalize hN : (if (0 : Int) < (ds.length : Int) - 1 then ((ds.length : Int) - 1 - 0 - 1) / 2 + 1 else 0).toNat = N
  have hNb : 2 * N ≤ ds.length := by split at hN <;> omega
  obtain ⟨ρ', e1, P, e2, e3, e4⟩ := forF_inv (k := setD 5) (b := law_labels_w1) (fun i ρ => ∃ (P : Lab), ρ = [some (.d (.list (ds.map PyData.int))), some (.d (.list (nms.map PyData.str))), some (.d (.list (ws.map PyData.str))), some (.ol (P.map encP)), some (.ol ((P.map Prod.fst).map PyData.str)), none, none] ∧ P.length ≤ i ∧ LabI nms ws P) (rng3 0 2 N) _ ⟨[], rfl, Nat.le_refl _, List.nodup_nil, fun _ h => nomatch h⟩ (by
    rintro i x _ hx ⟨P, rfl, hP, hI⟩
    unfold rng3 at hx
    rw [List.getElem?_map] at hx
    cases e : (List.range N)[i]? with
    | none => rw [e] at hx; cases hx
    | some k =>
      rw [e] at hx; cases hx
      have hi : i < N := by
        rcases Nat.lt_or_ge i N with q | q
        · exact q
        · rw [List.getElem?_eq_none (by simpa using q)] at e; cases e
      rw [List.getElem?_range hi] at e
      cases e
      obtain ⟨P', h1, h2, h3⟩ := labels_w1_ok ds nms ws P (0 + (i : Nat) * 2) hI hn hw (by omega) (by omega) (by omega)
      exact ⟨_, _, rfl, .inl h1, P', rfl, by omega, h3⟩)
  subst e2
  have hr : (rng3 0 2 N).length = N := by unfold rng3; simp
  rw [hr] at e3
  obtain ⟨l, s1, s2, s3⟩ := sorted_asc P (by omega) e4.nd
  refine ⟨l, ?_, by rw [s2.length_eq]; omega, s3, fun p hp => e4.mem p (s2.mem_iff.mp hp)⟩
  have hsm : Builtin.Range.small 0 ((ds.length : Int) - 1) 2 = true := small2 _ (by omega) (by omega)
  have hb : ∀ ρ, ρ = [some (.d (.list (ds.map PyData.int))), some (.d (.list (nms.map PyData.str))), some (.d (.list (ws.map PyData.str))), none, none, none, none] → law_labels_b ρ = .ok (.rt (.d (encB l))) := by
    rintro _ rfl
    unfold law_labels_b
    refine seq_nx (asg_nx (r := .ol []) rfl rfl) (seq_nx (asg_nx (r := .ol []) rfl rfl) (seq_nx (ρ1 := [some (.d (.list (ds.map PyData.int))), some (.d (.list (nms.map PyData.str))), some (.d (.list (ws.map PyData.str))), some (.ol (P.map encP)), some (.ol ((P.map Prod.fst).map PyData.str)), none, none]) ?_ ?_))
    · rw [forS_ap]
      have q : rngD3 (conB (kon (.int 0)) (conB (bin subS (callB lenS (conB (peek 0) nilB)) (kon (.int 1))) (conB (kon (.int 2)) nilB))) [some (.d (.list (ds.map PyData.int))), some (.d (.list (nms.map PyData.str))), some (.d (.list (ws.map PyData.str))), some (.ol []), some (.ol []), none, none] = .ok (rng3 0 2 N) := by
        unfold rngD3
        simp only [conB_ap, kon_ap, ok_bind, bin_ap, callB_ap, peek_ap, nilB_ap, List.getElem?_cons_zero, lenS_l, List.length_map, subS_i]
        rw [if_pos ⟨by omega, by omega, hsm⟩, hN]
      show rngD3 _ [some (.d (.list (ds.map PyData.int))), some (.d (.list (nms.map PyData.str))), some (.d (.list (ws.map PyData.str))), some (.ol []), some (.ol []), none, none] >>= _ = _
      rw [q]; exact e1
    · simp [s1, encB]
  exact runB_rt (hb _ rfl) rfl
theorem labels_ok (ds : List Int) (nms ws : List Str) (hd : ds.length ≤ 100) (hn : 0 < nms.length) (hw : 0 < ws.length) : ∃ l : Lab, law_labels_f [.list (ds.map PyData.int), .list (nms.map PyData.str), .list (ws.map PyData.str)] = .ok (.d (encB l)) ∧ l.length ≤ 100 :=
  let ⟨l, a, b, _⟩ := labels_ok' ds nms ws hd hn hw; ⟨l, a, b⟩
theorem matcher_ok (a b : Int) (nms ws : List Str) (hn : 0 < nms.length) (hw : ws.length ≤ 1000) : ∃ m : Mat, law_matcher_f [.int a, .int b, .list (nms.map PyData.str), .list (ws.map PyData.str)] = .ok (.d (encMt m)) ∧ m.vs.length ≤ 2 := by
  have hz := line16
  have hn' : (0 : Int) < nms.length := by omega
  have mn := imodN a nms.length hn'
  obtain ⟨x, _, hx⟩ := atI_map PyData.str nms (a % nms.length) mn.1 mn.2
  have hl : (0 : Int) < (ws.length : Int) + 1 := by omega
  have m1 := imodN (a / 7) ((ws.length : Int) + 1) hl
  have m2 := imodN (a / 50) ((ws.length : Int) + 1) hl
  obtain ⟨y, _, hy⟩ := atI_map PyData.str (ws ++ [("" : Str)]) (a / 7 % ((ws.length : Int) + 1)) m1.1 (by simp; omega)
  obtain ⟨z, _, hzz⟩ := atI_map PyData.str (ws ++ [("" : Str)]) (a / 50 % ((ws.length : Int) + 1)) m2.1 (by simp; omega)
  rw [List.map_append] at hy hzz
  simp only [List.map_cons, List.map_nil] at hy hzz
  have hadd : addS (.d (.list (ws.map PyData.str))) (.ol [.str ""]) = .ok (.ol (ws.map PyData.str ++ [.str ""])) := by
    show (if _ + _ ≤ sizeLine then _ else _) = _
    rw [if_pos (by simp; omega)]
  have h1 : 1 < sizeLine := by omega
  unfold law_matcher_f runB law_matcher_b startE
  by_cases c : b % 3 = 0
  · exact ⟨⟨x, [y, z], decide (b % 2 = 0)⟩, by simp [hadd, hl, hy, hzz, c, h1, hn, hn', hx, encMt], by simp⟩
  · exact ⟨⟨x, [y], decide (b % 2 = 0)⟩, by simp [hadd, hl, hy, c, h1, hn, hn', hx, encMt], by simp⟩
structure Rt where
  par : Option Int
  ms : List Mat
  gr : List Str
  wt : Int
  iv : Int
  ag : Int
  mu : List Str
  po : Str
def encI : Option Int → D
  | none => .none
  | some x => .int x
def encRt (r : Rt) : D := .tuple [encI r.par, .tuple (r.ms.map encMt), .tuple [.tuple (r.gr.map PyData.str), .int r.wt, .int r.iv, .int r.ag, .tuple (r.mu.map PyData.str), .str r.po]]
/-- child k of at takes the labels -/
def hitR (rs : List Rt) (l : Lab) (at_ : Int) (k : Int) : Bool := match rs[k.toNat]? with
  | some r => decide (r.par = some at_) && r.ms.all fun m => matM m l
  | none => false
def laterR (rs : List Rt) (l : Lab) (at_ : Int) : Option Int := (irng (at_ + 1) rs.length).find? (hitR rs l at_)
def wayR (rs : List Rt) (l : Lab) : Nat → Int → List Int
  | 0, _ => []
  | n + 1, at_ => match laterR rs l at_ with
    | none => []
    | some k => k :: wayR rs l n k
theorem later_gt {rs : List Rt} {l : Lab} {at_ k : Int} (h : laterR rs l at_ = some k) : at_ < k ∧ k < rs.length := by
  have := irng_mem (List.mem_of_find?_eq_some h)
  omega
theorem way_stable (rs : List Rt) (l : Lab) : ∀ (n m : Nat) (at_ : Int), ((rs.length : Int) - at_).toNat ≤ n → ((rs.length : Int) - at_).toNat ≤ m → wayR rs l n at_ = wayR rs l m at_
  | 0, 0, _, _, _ => rfl
  | 0, m + 1, a, h, _ => by
    unfold wayR
    cases e : laterR rs l a with
    | none => rfl
    | some k => have := later_gt e; omega
  | n + 1, 0, a, _, h => by
    unfold wayR
    cases e : laterR rs l a with
    | none => rfl
    | some k => have := later_gt e; omega
  | n + 1, m + 1, a, h1, h2 => by
    unfold wayR
    cases e : laterR rs l a with
    | none => rfl
    | some k =>
      have := later_gt e
      simp only
      rw [way_stable rs l n m k (by omega) (by omega)]
theorem eqS_oi (o : Option Int) (a : Int) : eqS false (.d (encI o)) (.d (.int a)) = .ok (.d (.bool (decide (o = some a)))) := by
  cases o with
  | none =>
    show eqG false _ _ = _
    unfold eqG
    have h1 : shpD .none = true := rfl
    have h2 : shpD (.int a) = true := rfl
    simp [encI, h1, h2, PyData.eqv]
  | some b => simp [encI]
abbrev eLt (rs : List Rt) (l : Lab) (a : Int) (x : Option SV) : En := [some (.d (.list (rs.map encRt))), some (.d (.int a)), some (.d (encB l)), x]
theorem later_w1_ok (rs : List Rt) (l : Lab) (a k : Int) (h0 : 0 ≤ k) (h1 : k < rs.length) : later_w1 (eLt rs l a (some (.d (.int k)))) = if hitR rs l a k = true then .ok (.rt (.d (.int k))) else .ok (.nx (eLt rs l a none)) := by
  have hlt : k.toNat < rs.length := by omega
  have hg : rs[k.toNat]? = some (rs[k.toNat]'hlt) := List.getElem?_eq_getElem hlt
  generalize rs[k.toNat]'hlt = r at hg
  have ix : ixS (.d (.list (rs.map encRt))) (.d (.int k)) = .ok (.d (encRt r)) := by rw [ixS_l, atI_map' encRt rs k r h0 hg]
  have i0 : ixS (.d (encRt r)) (.d (.int 0)) = .ok (.d (encI r.par)) := rfl
  have i1 : ixS (.d (encRt r)) (.d (.int 1)) = .ok (.d (.tuple (r.ms.map encMt))) := rfl
  have e := eqS_oi r.par a
  have m := matches_all_ok (.tuple (r.ms.map encMt)) r.ms l (.inl rfl)
  have key : hitR rs l a k = (decide (r.par = some a) && r.ms.all fun m => matM m l) := by unfold hitR; rw [hg]
  rw [key]
  unfold later_w1
  cases c : decide (r.par = some a) with
  | true =>
    rw [c] at e
    cases c2 : r.ms.all fun m => matM m l with
    | true => rw [c2] at m; simp [ix, i0, i1, e, m]
    | false => rw [c2] at m; simp [ix, i0, i1, e, m]
  | false => rw [c] at e; simp [ix, i0, e]
theorem later_loop (rs : List Rt) (l : Lab) (a : Int) : ∀ u : List Int, (∀ k ∈ u, 0 ≤ k ∧ k < rs.length) → forF (setD 3) later_w1 (u.map PyData.int) (eLt rs l a none) = (match u.find? (hitR rs l a) with | some k => .ok (.rt (.d (.int k))) | none => .ok (.nx (eLt rs l a none)))
  | [], _ => rfl
  | k :: u, hu => by
    have ih := later_loop rs l a u fun j hj => hu j (List.mem_cons_of_mem _ hj)
    obtain ⟨k0, k1⟩ := hu k List.mem_cons_self
    have e2 := later_w1_ok rs l a k k0 k1
    rw [List.map_cons, forF, List.find?_cons]
    simp only [setD_ap, List.set_cons_succ, List.set_cons_zero, e2, ok_bind]
    cases hc : hitR rs l a k with
    | true => simp
    | false => simp only [Bool.false_eq_true, if_false, ok_bind]; exact ih
theorem later_ok (rs : List Rt) (l : Lab) (a : Int) (h0 : 0 ≤ a) (ha : a ≤ 1000000) (hr : rs.length ≤ 1000000) : later_f [.list (rs.map encRt), .int a, encB l] = .ok (.d (encI (laterR rs l a))) := by
  have h := later_loop rs l a (irng (a + 1) rs.length) fun k hk => by have := irng_mem hk; omega
  rw [← rng_irng] at h
  have hb : ∀ ρ, ρ = eLt rs l a none → later_b ρ = .ok (.rt (.d (encI (laterR rs l a)))) := by
    rintro _ rfl
    have f := forS_rng2 (fa := bin addS (peek 1) (kon (.int 1))) (fb := callB lenS (conB (peek 0) nilB)) (ρ := eLt rs l a none) (i := a + 1) (j := rs.length) (by simp) (by simp) (okR_of (by omega) (by omega)) (okR_of (by omega) (by omega)) h
    unfold later_b laterR
    cases hq : (irng (a + 1) rs.length).find? (hitR rs l a) with
    | some k => rw [hq] at f; exact seq_rt f
    | none => rw [hq] at f; exact seq_nx f rfl
  exact runB_rt (hb _ rfl) rfl
abbrev eWy (rs : List Rt) (l : Lab) (R : List Int) (o : Option Int) : En := [some (.d (.list (rs.map encRt))), some (.d (encB l)), some (.ol (R.map PyData.int)), some (.d (encI o))]
def restR (rs : List Rt) (l : Lab) (N : Nat) : Option Int → List Int
  | none => []
  | some k => k :: wayR rs l N k
theorem way_rest (rs : List Rt) (l : Lab) (N : Nat) (a : Int) : wayR rs l (N + 1) a = restR rs l N (laterR rs l a) := by
  show (match laterR rs l a with | none => [] | some k => k :: wayR rs l N k) = _
  cases laterR rs l a <;> rfl
theorem way_loop (rs : List Rt) (l : Lab) (hr : rs.length ≤ 1000) (N : Nat) (hN : rs.length ≤ N) : ∀ (n : Nat) (R : List Int) (o : Option Int), R.length + n ≤ 3000 → (∀ k, o = some k → 0 ≤ k ∧ k < rs.length ∧ ((rs.length : Int) - k).toNat < n) → 0 < n → whileF n way_t1 way_w1 (eWy rs l R o) = .ok (.nx (eWy rs l (R ++ restR rs l N o) none))
  | 0, _, _, _, _, h => by omega
  | n + 1, R, none, _, _, _ => by
    unfold whileF way_t1
    simp [encI, restR]
  | n + 1, R, some k, hR, hk, _ => by
    have hz := line16
    obtain ⟨k0, k1, k2⟩ := hk k rfl
    have a1 := later_ok rs l k k0 (by omega) (by omega)
    have hl : R.length < sizeLine := by omega
    have ih := way_loop rs l hr N hN n (R ++ [k]) (laterR rs l k) (by simp; omega) (fun j hj => by have := later_gt hj; omega) (by omega)
    have e : R ++ [k] ++ restR rs l N (laterR rs l k) = R ++ restR rs l N (some k) := by
      rw [← way_rest, List.append_assoc]
      show R ++ (k :: wayR rs l (N + 1) k) = R ++ (k :: wayR rs l N k)
      rw [way_stable rs l (N + 1) N k (by omega) (by omega)]
    rw [e] at ih
    unfold whileF
    have e1 : way_t1 (eWy rs l R (some k)) = .ok true := by
      unfold way_t1
      simp [encI]
    have e2 : way_w1 (eWy rs l R (some k)) = .ok (.nx (eWy rs l (R ++ [k]) (laterR rs l k))) := by
      show way_w1 [some (.d (.list (rs.map encRt))), some (.d (encB l)), some (.ol (R.map PyData.int)), some (.d (.int k))] = _
      unfold way_w1
      simp [hl, a1]
    rw [e1, ok_bind, if_pos rfl, e2, ok_bind]
    exact ih
theorem way_ok (rs : List Rt) (l : Lab) (hr : rs.length ≤ 1000) : way_f [.list (rs.map encRt), encB l] = .ok (.ol ((0 :: wayR rs l (rs.length + 1) 0).map PyData.int)) := by
  have a1 := later_ok rs l 0 (by omega) (by omega) (by omega)
  have h := way_loop rs l hr rs.length (Nat.le_refl _) 2000 [0] (laterR rs l 0) (by simp) (fun j hj => by have := later_gt hj; omega) (by omega)
  have hf : ∀ m, 2000 ≤ m → whileF m way_t1 way_w1 (eWy rs l [0] (laterR rs l 0)) = whileF 2000 way_t1 way_w1 (eWy rs l [0] (laterR rs l 0)) := by
    have step : ∀ n ρ ρ', whileF n way_t1 way_w1 ρ = .ok (.nx ρ') → ∀ d, whileF (n + d) way_t1 way_w1 ρ = .ok (.nx ρ') := by
      intro n
      induction n with
      | zero => intro ρ ρ' h; cases h
      | succ n ih =>
        intro ρ ρ' h d
        rw [show n + 1 + d = (n + d) + 1 by omega]
        unfold whileF at h ⊢
        cases c : way_t1 ρ with
        | bad => rw [c] at h; cases h
        | ex a b => rw [c] at h; cases h
        | ok b =>
          rw [c, ok_bind] at h
          rw [ok_bind]
          cases b with
          | false => exact h
          | true =>
            rw [if_pos rfl] at h ⊢
            cases c2 : way_w1 ρ with
            | bad => rw [c2] at h; cases h
            | ex a b => rw [c2] at h; cases h
            | ok fl =>
              rw [c2, ok_bind] at h
              rw [ok_bind]
              cases fl with
              | nx q => exact ih q ρ' h d
              | ct q => exact ih q ρ' h d
              | bk q => exact h
              | rt q => cases h
    intro m hm
    have := step 2000 _ _ h (m - 2000)
    rw [show 2000 + (m - 2000) = m by omega] at this
    rw [this, h]
  rw [← way_rest] at h
  have hb : ∀ ρ, ρ = [some (.d (.list (rs.map encRt))), some (.d (encB l)), none, none] → way_b ρ = .ok (.rt (.ol ((0 :: wayR rs l (rs.length + 1) 0).map PyData.int))) := by
    rintro _ rfl
    unfold way_b
    refine seq_nx (asg_nx (r := .ol [.int 0]) rfl rfl) (seq_nx (asg_nx (r := .d (encI (laterR rs l 0))) (by simp [a1]) rfl) (seq_nx (ρ1 := eWy rs l (0 :: wayR rs l (rs.length + 1) 0) none) ?_ rfl))
    show whileF 1000000 way_t1 way_w1 (eWy rs l [0] (laterR rs l 0)) = _
    rw [hf 1000000 (by omega)]
    exact h
  exact runB_rt (hb _ rfl) rfl
theorem eI0 : encI none = .none := rfl
theorem eI1 (k : Int) : encI (some k) = .int k := rfl
def TreeOk (rs : List Rt) : Prop := ∀ (k : Nat) (r : Rt), rs[k]? = some r → ∀ p, r.par = some p → 0 ≤ p ∧ p < k
theorem hit_after {rs : List Rt} {l : Lab} {x k : Int} (ht : TreeOk rs) (h0 : 0 ≤ k) (h : hitR rs l x k = true) : x < k := by
  unfold hitR at h
  cases e : rs[k.toNat]? with
  | none => rw [e] at h; cases h
  | some r =>
    rw [e] at h
    simp only [Bool.and_eq_true, decide_eq_true_eq] at h
    have := ht _ r e x h.1
    omega
theorem irng_split {a b c : Int} (h : a ≤ b) (h2 : b ≤ c) : irng a c = irng a b ++ irng b c := by
  generalize hk : (b - a).toNat = k
  induction k generalizing a with
  | zero => rw [show a = b by omega, irng_nil (Int.le_refl b), List.nil_append]
  | succ k ih => rw [irng_cons (by omega), irng_cons (b := b) (by omega), ih (by omega) (by omega), List.cons_append]
theorem later_all {rs : List Rt} {l : Lab} {x : Int} (ht : TreeOk rs) (h0 : 0 ≤ x) (h1 : x < rs.length) : (irng 1 rs.length).find? (hitR rs l x) = laterR rs l x := by
  unfold laterR
  rw [irng_split (b := x + 1) (by omega) (by omega), List.find?_append, List.find?_eq_none.mpr, Option.none_or]
  intro k hk hh
  have := irng_mem hk
  have := hit_after ht (by omega) hh
  omega
abbrev eLW (rs : List Rt) (l : Lab) (R : List Int) (t : Option SV) (o : Option Int) (k : Option SV) : En := [some (.d (.list (rs.map encRt))), some (.d (encB l)), some (.ol (R.map PyData.int)), t, some (.d (encI o)), k]
theorem last_int (P : List Int) (x : Int) : atI ((P ++ [x]).map PyData.int) (-1) = some (.int x) := by
  unfold atI ixN
  rw [if_neg (by omega), if_pos (by simp; omega)]
  simp
  rw [show (-1 + ((P.length : Int) + 1)).toNat = P.length by omega]
  simp
theorem lw_w1_ok (rs : List Rt) (l : Lab) (P : List Int) (x : Int) (t : Option SV) (o : Option Int) (k : Int) (h0 : 0 ≤ k) (h1 : k < rs.length) : law_way_w1 (eLW rs l (P ++ [x]) t o (some (.d (.int k)))) = .ok (.nx (eLW rs l (P ++ [x]) t (o.or (if hitR rs l x k = true then some k else none)) none)) := by
  have hlt : k.toNat < rs.length := by omega
  have hg : rs[k.toNat]? = some (rs[k.toNat]'hlt) := List.getElem?_eq_getElem hlt
  generalize rs[k.toNat]'hlt = r at hg
  have ix : ixS (.d (.list (rs.map encRt))) (.d (.int k)) = .ok (.d (encRt r)) := by rw [ixS_l, atI_map' encRt rs k r h0 hg]
  have i0 : ixS (.d (encRt r)) (.d (.int 0)) = .ok (.d (encI r.par)) := rfl
  have i1 : ixS (.d (encRt r)) (.d (.int 1)) = .ok (.d (.tuple (r.ms.map encMt))) := rfl
  have e := eqS_oi r.par x
  have m := law_matches_ok (.tuple (r.ms.map encMt)) r.ms l (.inl rfl)
  have la := last_int P x
  have key : hitR rs l x k = (decide (r.par = some x) && r.ms.all fun m => matM m l) := by unfold hitR; rw [hg]
  rw [key]
  cases o with
  | some y =>
    show law_way_w1 [some (.d (.list (rs.map encRt))), some (.d (encB l)), some (.ol ((P ++ [x]).map PyData.int)), t, some (.d (.int y)), some (.d (.int k))] = .ok (.nx [some (.d (.list (rs.map encRt))), some (.d (encB l)), some (.ol ((P ++ [x]).map PyData.int)), t, some (.d (.int y)), none])
    unfold law_way_w1
    generalize (P ++ [x]).map PyData.int = L
    simp
  | none =>
    rw [Option.none_or]
    show law_way_w1 [some (.d (.list (rs.map encRt))), some (.d (encB l)), some (.ol ((P ++ [x]).map PyData.int)), t, some (.d .none), some (.d (.int k))] = .ok (.nx [some (.d (.list (rs.map encRt))), some (.d (encB l)), some (.ol ((P ++ [x]).map PyData.int)), t, some (.d (encI _)), none])
    unfold law_way_w1
    generalize (P ++ [x]).map PyData.int = L at *
    cases c : decide (r.par = some x) with
    | true =>
      rw [c] at e
      cases c2 : r.ms.all fun m => matM m l with
      | true => rw [c2] at m; simp [ix, i0, i1, e, m, la, eI0, eI1]
      | false => rw [c2] at m; simp [ix, i0, i1, e, m, la, eI0, eI1]
    | false => rw [c] at e; simp [ix, i0, e, la, eI0, eI1]
theorem lw_loop (rs : List Rt) (l : Lab) (P : List Int) (x : Int) (t : Option SV) : ∀ (u : List Int) (o : Option Int), (∀ k ∈ u, 0 ≤ k ∧ k < rs.length) → forF (setD 5) law_way_w1 (u.map PyData.int) (eLW rs l (P ++ [x]) t o none) = .ok (.nx (eLW rs l (P ++ [x]) t (o.or (u.find? (hitR rs l x))) none))
  | [], o, _ => by simp [forF]
  | k :: u, o, hu => by
    obtain ⟨k0, k1⟩ := hu k List.mem_cons_self
    have e2 := lw_w1_ok rs l P x t o k k0 k1
    have ih := lw_loop rs l P x t u (o.or (if hitR rs l x k = true then some k else none)) fun j hj => hu j (List.mem_cons_of_mem _ hj)
    rw [List.map_cons, forF]
    simp only [setD_ap, List.set_cons_succ, List.set_cons_zero, e2, ok_bind]
    rw [ih, List.find?_cons]
    cases hc : hitR rs l x k with
    | true => cases o <;> rfl
    | false => cases o <;> rfl
abbrev eLX (rs : List Rt) (l : Lab) (R : List Int) (t : Option SV) : En := [some (.d (.list (rs.map encRt))), some (.d (encB l)), some (.ol (R.map PyData.int)), t, none, none]
theorem lw_w2_ok (rs : List Rt) (l : Lab) (P : List Int) (x : Int) (t : D) (ht : TreeOk rs) (hr : rs.length ≤ 1000) (hP : P.length ≤ 5000) (h0 : 0 ≤ x) (h1 : x < rs.length) : law_way_w2 (eLX rs l (P ++ [x]) (some (.d t))) = .ok (.nx (eLX rs l (P ++ [x] ++ (laterR rs l x).toList) none)) := by
  have hz := line16
  have lp := lw_loop rs l P x (some (.d t)) (irng 1 rs.length) none fun k hk => by have := irng_mem hk; omega
  rw [later_all ht h0 h1, Option.none_or, ← rng_irng] at lp
  have hl : (P ++ [x]).length < sizeLine := by rw [List.length_append]; simp; omega
  unfold law_way_w2
  refine kill_nx (ρ1 := [some (.d (.list (rs.map encRt))), some (.d (encB l)), some (.ol ((P ++ [x] ++ (laterR rs l x).toList).map PyData.int)), some (.d t), some (.d (encI (laterR rs l x))), none]) ?_ rfl
  refine seq_nx (asg_nx (r := .d .none) rfl rfl) (seq_nx (ρ1 := eLW rs l (P ++ [x]) (some (.d t)) (laterR rs l x) none) (forS_rng2 (i := 1) (j := rs.length) (by simp) (by simp) okR_1 (okR_of (by omega) (by omega)) lp) ?_)
  generalize P ++ [x] = R at *
  cases laterR rs l x with
  | none => simp [eI0, Option.toList]
  | some k => simp [eI1, hl, Option.toList]
theorem way_snoc (rs : List Rt) (l : Lab) : ∀ (n : Nat) (x : Int), ∃ P y, (x :: wayR rs l n x) = P ++ [y] ∧ (x :: wayR rs l (n + 1) x) = P ++ [y] ++ (laterR rs l y).toList ∧ (0 ≤ x → x < rs.length → 0 ≤ y ∧ y < rs.length) ∧ P.length ≤ n
  | 0, x => ⟨[], x, rfl, by unfold wayR wayR; cases laterR rs l x <;> rfl, fun a b => ⟨a, b⟩, Nat.le_refl _⟩
  | n + 1, x => by
    cases e : laterR rs l x with
    | none =>
      refine ⟨[], x, ?_, ?_, fun a b => ⟨a, b⟩, Nat.zero_le _⟩
      · unfold wayR; rw [e]; rfl
      · unfold wayR; rw [e]; rfl
    | some k =>
      obtain ⟨P, y, h1, h2, h3, h4⟩ := way_snoc rs l n k
      have hk := later_gt e
      have u : ∀ m, wayR rs l (m + 1) x = k :: wayR rs l m k := fun m => by rw [way_rest, e]; rfl
      refine ⟨x :: P, y, ?_, ?_, fun a b => h3 (by omega) hk.2, by simp; omega⟩
      · rw [u, h1]; rfl
      · rw [u, h2]; rfl
theorem law_way_ok (rs : List Rt) (l : Lab) (ht : TreeOk rs) (hr : rs.length ≤ 1000) (hp : 0 < rs.length) : law_way_f [.list (rs.map encRt), encB l] = .ok (.ol ((0 :: wayR rs l rs.length 0).map PyData.int)) := by
  obtain ⟨ρ', e1, e2⟩ := forF_inv (k := setD 3) (b := law_way_w2) (fun i ρ => ρ = eLX rs l (0 :: wayR rs l i 0) none) (rng 0 rs.length) _ rfl (by
    rintro i x _ hx rfl
    obtain ⟨rfl, hi⟩ := rng_at hx
    obtain ⟨P, y, h1, h2, h3, h4⟩ := way_snoc rs l i 0
    obtain ⟨y0, y1⟩ := h3 (by omega) (by omega)
    have hs := lw_w2_ok rs l P y (.int (0 + (i : Nat))) ht hr (by omega) y0 y1
    rw [← h2, ← h1] at hs
    exact ⟨_, _, rfl, .inl hs, rfl⟩)
  subst e2
  rw [rng_len, show ((rs.length : Int) - 0).toNat = rs.length by omega] at e1
  have hb : ∀ ρ, ρ = [some (.d (.list (rs.map encRt))), some (.d (encB l)), none, none, none, none] → law_way_b ρ = .ok (.rt (.ol ((0 :: wayR rs l rs.length 0).map PyData.int))) := by
    rintro _ rfl
    unfold law_way_b
    exact seq_nx (asg_nx (r := .ol [.int 0]) rfl rfl) (seq_nx (forS_rng1 (by simp) (okR_of (by omega) (by omega)) e1) rfl)
  exact runB_rt (hb _ rfl) rfl
theorem last_map {α : Type} (f : α → D) (P : List α) (x : α) : atI ((P ++ [x]).map f) (-1) = some (f x) := by
  unfold atI ixN
  rw [if_neg (by omega), if_pos (by simp; omega)]
  simp
  rw [show (-1 + ((P.length : Int) + 1)).toNat = P.length by omega]
  simp
abbrev eR (c pl : Int) (nms ws la sh : List Str) (ds : List Int) (par : Option SV) (ms k : Option SV) (a b c2 d e : Option SV) : En := [some (.d (.int c)), some (.d (.int pl)), some (.d (.list (nms.map PyData.str))), some (.d (.list (ws.map PyData.str))), some (.d (.list (la.map PyData.str))), some (.d (.list (sh.map PyData.str))), some (.ol (ds.map PyData.int)), par, ms, k, a, b, c2, d, e]
theorem route_w1_ok (c pl : Int) (nms ws la sh : List Str) (ds : List Int) (par : Option SV) (M : List Mat) (k : Int) (hd : ds.length = 16) (h0 : 0 ≤ k) (hk : k < 2) (hn : 0 < nms.length) (hw : ws.length ≤ 1000) (hM : M.length < 10) : ∃ m : Mat, law_route_w1 (eR c pl nms ws la sh ds par (some (.ol (M.map encMt))) (some (.d (.int k))) none none none none none) = .ok (.nx (eR c pl nms ws la sh ds par (some (.ol ((M ++ [m]).map encMt))) none none none none none none)) ∧ m.vs.length ≤ 2 := by
  have hz := line16
  obtain ⟨a, _, ha⟩ := atI_ints ds (2 + 2 * k) (by omega) (by omega)
  obtain ⟨b, _, hb⟩ := atI_ints ds (3 + 2 * k) (by omega) (by omega)
  obtain ⟨m, m1, m2⟩ := matcher_ok a b nms ws hn hw
  have hl : M.length < sizeLine := by omega
  refine ⟨m, ?_, m2⟩
  unfold law_route_w1
  simp [ha, hb, m1, hl]
theorem cutD_map {α β : Type} (f : α → β) (xs : List α) (lo hi : Option Int) : Pl.cutD (xs.map f) lo hi = (Pl.cutD xs lo hi).map f := by
  unfold Pl.cutD
  rw [List.length_map, List.map_take, List.map_drop]
theorem route_loop (c pl : Int) (nms ws la sh : List Str) (ds : List Int) (par : Option SV) (n : Int) (hd : ds.length = 16) (hn : 0 < nms.length) (hw : ws.length ≤ 1000) (hn2 : n ≤ 2) : ∃ M : List Mat, forF (setD 9) law_route_w1 (rng 0 n) (eR c pl nms ws la sh ds par (some (.ol [])) none none none none none none) = .ok (.nx (eR c pl nms ws la sh ds par (some (.ol (M.map encMt))) none none none none none none)) ∧ M.length ≤ 2 ∧ ∀ m ∈ M, m.vs.length ≤ 2 := by
  obtain ⟨ρ', e1, M, e2, e3, e4⟩ := forF_inv (k := setD 9) (b := law_route_w1) (fun i ρ => ∃ M : List Mat, ρ = eR c pl nms ws la sh ds par (some (.ol (M.map encMt))) none none none none none none ∧ M.length = i ∧ ∀ m ∈ M, m.vs.length ≤ 2) (rng 0 n) _ ⟨[], rfl, rfl, fun _ h => nomatch h⟩ (by
    rintro i x _ hx ⟨M, rfl, hM, hV⟩
    obtain ⟨rfl, hi⟩ := rng_at hx
    obtain ⟨m, hm, hm2⟩ := route_w1_ok c pl nms ws la sh ds par M (0 + (i : Nat)) hd (by omega) (by omega) hn hw (by omega)
    exact ⟨_, _, rfl, .inl hm, M ++ [m], rfl, by simp [hM], fun q hq => by
      rcases List.mem_append.mp hq with z | z
      · exact hV q z
      · simp at z; subst z; exact hm2⟩)
  subst e2
  rw [rng_len] at e3
  exact ⟨M, e1, by omega, e4⟩
def rtA : En → R Fl := (seqS (asgS 7 (kon .none))
    (seqS (asgS 8 (dispL nilA))
    ((ifS (asT (bin gtS (peek 1) (kon (.int 0)))) (seqS (asgS 7 (bin modS (callB intS (conB (bin ixS (peek 6) (kon (.int 0))) nilB)) (peek 1)))
    (forS (rngD1 (conB (bin modS (callB intS (conB (bin ixS (peek 6) (kon (.int 1))) nilB)) (kon (.int 3))) nilB)) (setD 9) law_route_w1)) skip))))
theorem rtA_ok (c pl : Int) (nms ws la sh : List Str) (ds : List Int) (hd : ds.length = 16) (hn : 0 < nms.length) (hw : ws.length ≤ 1000) (h0 : 0 ≤ pl) : ∃ (par : Option Int) (M : List Mat), rtA (eR c pl nms ws la sh ds none none none none none none none none) = .ok (.nx (eR c pl nms ws la sh ds (some (.d (encI par))) (some (.ol (M.map encMt))) none none none none none none)) ∧ (∀ p, par = some p → 0 ≤ p ∧ p < pl) ∧ M.length ≤ 2 ∧ (∀ m ∈ M, m.vs.length ≤ 2) ∧ (0 < pl → par.isSome = true) := by
  obtain ⟨a0, _, h00⟩ := atI_ints ds 0 (by omega) (by omega)
  obtain ⟨a1, _, h11⟩ := atI_ints ds 1 (by omega) (by omega)
  by_cases c1 : 0 < pl
  · obtain ⟨M, hM, hM2, hM3⟩ := route_loop c pl nms ws la sh ds (some (.d (.int (a0 % pl)))) (a1 % 3) hd hn hw (by omega)
    have r1 : okR (a1 % 3) = true := okR_of (by omega) (by omega)
    refine ⟨some (a0 % pl), M, ?_, fun p hp => by injection hp with hp; have := imodN a0 pl c1; omega, hM2, hM3, fun _ => rfl⟩
    unfold rtA
    simp [c1, h00, h11, r1, hM, eI1]
  · refine ⟨none, [], ?_, (fun p hp => nomatch hp), by simp, (fun _ h => nomatch h), fun h => absurd h c1⟩
    unfold rtA
    simp [c1, eI0]
theorem route_eq : law_route_b = (seqS (asgS 6 (callF 2 law_draws_f (conA (getV 0) (conA (kon (.int 16)) nilA))))
    (seqS rtA
    (seqS (asgS 10 (lcE (rngD1 (conB (bin modS (callB intS (conB (bin ixS (peek 6) (kon (.int 6))) nilB)) (kon (.int 3))) nilB)) (setD 9) yesT (bin ixS (peek 2) (bin modS (callB intS (conB (bin addS (bin ixS (peek 6) (kon (.int 7))) (peek 9)) nilB)) (callB lenS (conB (peek 2) nilB)))) [9]))
    (seqS (asgS 11 (bin addS (kon (.int 1)) (bin modS (callB intS (conB (bin ixS (peek 6) (kon (.int 9))) nilB)) (kon (.int 6)))))
    (seqS (asgS 12 (bin addS (peek 11) (bin modS (callB intS (conB (bin ixS (peek 6) (kon (.int 10))) nilB)) (kon (.int 9)))))
    (seqS (asgS 13 (slice (peek 5) noO (someO (bin modS (callB intS (conB (bin ixS (peek 6) (kon (.int 11))) nilB)) (bin addS (callB lenS (conB (peek 5) nilB)) (kon (.int 1)))))))
    (seqS (asgS 14 (bin ixS (peek 4) (bin modS (callB intS (conB (bin ixS (peek 6) (kon (.int 12))) nilB)) (callB lenS (conB (peek 4) nilB)))))
    (frzS [11, 12] (retS (dispT (conA (getV 7) (conA (callB tupS (conB (peek 8) nilB)) (conA (dispT (conA (callB tupS (conB (peek 10) nilB)) (conA (bin modS (callB intS (conB (bin ixS (peek 6) (kon (.int 8))) nilB)) (kon (.int 5))) (conA (getV 11) (conA (getV 12) (conA (callB tupS (conB (peek 13) nilB)) (conA (getV 14) nilA))))))) nilA)))))))))))))  := by
  unfold rtA
  simp only [seqS_assoc]
  rfl
theorem route_ok (c pl : Int) (nms ws la sh : List Str) (hn : 0 < nms.length) (hw : ws.length ≤ 1000) (h0 : 0 ≤ pl) (hla : 0 < la.length) : ∃ r : Rt, law_route_f [.int c, .int pl, .list (nms.map PyData.str), .list (ws.map PyData.str), .list (la.map PyData.str), .list (sh.map PyData.str)] = .ok (.d (encRt r)) ∧ (∀ p, r.par = some p → 0 ≤ p ∧ p < pl) ∧ r.ms.length ≤ 2 ∧ r.gr.length ≤ 2 ∧ (∀ m ∈ r.ms, m.vs.length ≤ 2) ∧ (0 < pl → r.par.isSome = true) := by
  have hz := line16
  obtain ⟨ds, d1, d2, _⟩ := draws_ok c 16 (by omega) (by omega)
  have hd : ds.length = 16 := by simpa using d2
  rw [draws_eq.symm] at d1
  obtain ⟨par, M, p1, p2, p3, p4, p5⟩ := rtA_ok c pl nms ws la sh ds hd hn hw h0
  obtain ⟨a6, _, h6⟩ := atI_ints ds 6 (by omega) (by omega)
  obtain ⟨a7, _, h7⟩ := atI_ints ds 7 (by omega) (by omega)
  obtain ⟨a8, _, h8⟩ := atI_ints ds 8 (by omega) (by omega)
  obtain ⟨a9, _, h9⟩ := atI_ints ds 9 (by omega) (by omega)
  obtain ⟨a10, _, h10⟩ := atI_ints ds 10 (by omega) (by omega)
  obtain ⟨a11, _, h11⟩ := atI_ints ds 11 (by omega) (by omega)
  obtain ⟨a12, _, h12⟩ := atI_ints ds 12 (by omega) (by omega)
  have hn' : (0 : Int) < nms.length := by omega
  have hla' : (0 : Int) < la.length := by omega
  have hs' : (0 : Int) < (sh.length : Int) + 1 := by omega
  obtain ⟨G, g1, g2, _⟩ := lcF_ex PyData.str (fun _ => True) (k := setD 9) (e := (bin ixS (peek 2) (bin modS (callB intS (conB (bin addS (bin ixS (peek 6) (kon (.int 7))) (peek 9)) nilB)) (callB lenS (conB (peek 2) nilB))))) (ρ0 := eR c pl nms ws la sh ds (some (.d (encI par))) (some (.ol (M.map encMt))) none none none none none none) (rng 0 (a6 % 3)) (by
    intro x hx
    obtain ⟨i, rfl, hi⟩ := rng_mem hx
    have mm := imodN (a7 + i) nms.length hn'
    obtain ⟨y, _, hy⟩ := atI_map PyData.str nms ((a7 + i) % nms.length) mm.1 mm.2
    exact ⟨_, .d (.str y), y, rfl, by simp [h7, hn, hn', hy], rfl, trivial⟩)
  have r6 : okR (a6 % 3) = true := okR_of (by omega) (by omega)
  have l6 : (rng 0 (a6 % 3)).length < sizeLine := by rw [rng_len]; omega
  have m12 := imodN a12 la.length hla'
  obtain ⟨po, _, hpo⟩ := atI_map PyData.str la (a12 % la.length) m12.1 m12.2
  refine ⟨⟨par, M, G, a8 % 5, 1 + a9 % 6, 1 + a9 % 6 + a10 % 9, Pl.cutD sh none (some (a11 % ((sh.length : Int) + 1))), po⟩, ?_, p2, p3, by show G.length ≤ 2; rw [g2, rng_len]; omega, p4, p5⟩
  have hb : ∀ ρ, ρ = [some (.d (.int c)), some (.d (.int pl)), some (.d (.list (nms.map PyData.str))), some (.d (.list (ws.map PyData.str))), some (.d (.list (la.map PyData.str))), some (.d (.list (sh.map PyData.str))), none, none, none, none, none, none, none, none, none] → law_route_b ρ = .ok (.rt (.d (encRt ⟨par, M, G, a8 % 5, 1 + a9 % 6, 1 + a9 % 6 + a10 % 9, Pl.cutD sh none (some (a11 % ((sh.length : Int) + 1))), po⟩))) := by
    rintro _ rfl
    rw [route_eq]
    refine seq_nx (asg_nx (r := .ol (ds.map PyData.int)) (by simp [d1]) rfl) (seq_nx p1 (seq_nx (asg_nx (r := .ol (G.map PyData.str)) ?_ rfl) (seq_nx (asg_nx (r := .d (.int (1 + a9 % 6))) (by simp [h9]) rfl) (seq_nx (asg_nx (r := .d (.int (1 + a9 % 6 + a10 % 9))) (by simp [h10]) rfl) (seq_nx (asg_nx (r := .ol ((Pl.cutD sh none (some (a11 % ((sh.length : Int) + 1)))).map PyData.str)) (by simp [h11, hs', cutD_map]) rfl) (seq_nx (asg_nx (r := .d (.str po)) (by simp [h12, hla, hla', hpo]) rfl) ?_))))))
    · rw [lcE_ap]
      simp only [rngD1_ap, conB_ap, nilB_ap, bin_ap, callB_ap, peek_ap, kon_ap, ok_bind, List.set_cons_succ, List.set_cons_zero, List.getElem?_cons_zero, List.getElem?_cons_succ, ixS_ol, h6, intS_i, modS_i, Int.reduceLT, if_true, r6, l6, wipeE_cons, wipeE_nil, g1]
    · simp [h8, encRt]
  exact runB_rt (hb _ rfl) rfl
def RtSm (r : Rt) : Prop := r.ms.length ≤ 2 ∧ r.gr.length ≤ 2 ∧ ∀ m ∈ r.ms, m.vs.length ≤ 2
def ParOk (rs : List Rt) : Prop := ∀ (k : Nat) (r : Rt), rs[k]? = some r → 0 < k → r.par.isSome = true
theorem tree_w1_ok (ns : List Int) (lo hi : Int) (nms ws : List Str) (T : List Rt) (k : Int) (h0 : 0 ≤ lo) (hk : lo ≤ k) (hn : 0 < nms.length) (hw : ws.length ≤ 1000) (hT : T.length ≤ 100) (ht : TreeOk T) (hlt : (T.length : Int) ≤ k - lo) (hc : k = lo ∨ k < ns.length → (T.length : Int) = k - lo) (hs : ∀ r ∈ T, RtSm r) (hpa : ParOk T) :
    ∃ T' : List Rt, law_tree_w1 [some (.d (.list (ns.map PyData.int))), some (.d (.int lo)), some (.d (.int hi)), some (.d (.list (nms.map PyData.str))), some (.d (.list (ws.map PyData.str))), some (.ol (T.map encRt)), some (.d (.int k))]
      = .ok (.nx [some (.d (.list (ns.map PyData.int))), some (.d (.int lo)), some (.d (.int hi)), some (.d (.list (nms.map PyData.str))), some (.d (.list (ws.map PyData.str))), some (.ol (T'.map encRt)), none]) ∧ TreeOk T' ∧ T'.length = T.length + (if k = lo ∨ k < ns.length then 1 else 0) ∧ (∀ r ∈ T', RtSm r) ∧ ParOk T' := by
  have hz := line16
  have hl : T.length < sizeLine := by omega
  by_cases c : k = lo ∨ k < ns.length
  · obtain ⟨ce, hce⟩ := cell_ok ns k (by omega)
    rw [cell_eq.symm] at hce
    obtain ⟨r, r1, r2, r3, r4, r5, r6⟩ := route_ok ce (k - lo) nms ws ["pol", "other"] ["night", "noon"] hn hw (by omega) (by simp)
    simp only [List.map_cons, List.map_nil] at r1
    refine ⟨T ++ [r], ?_, fun j q hq p hp => ?_, by rw [if_pos c]; simp, (fun q hq => by
      rcases List.mem_append.mp hq with hq | hq
      · exact hs q hq
      · simp at hq; subst hq; exact ⟨r3, r4, r5⟩), fun j q hq h0 => by
      have hT2 := hc c
      by_cases hj : j < T.length
      · rw [List.getElem?_append_left hj] at hq; exact hpa j q hq h0
      · rw [List.getElem?_append_right (by omega)] at hq
        by_cases hj2 : j = T.length
        · subst hj2; simp at hq; subst hq; exact r6 (by omega)
        · rw [List.getElem?_eq_none (by simp; omega)] at hq; cases hq⟩
    · unfold law_tree_w1
      by_cases c1 : k = lo
      · simp only [c1, Int.sub_self] at hce r1 ⊢
        simp [hce, r1, hl]
      · have c2 : k < ns.length := by rcases c with c | c; exact absurd c c1; exact c
        simp [c1, c2, hce, r1, hl]
    · have hT2 := hc c
      by_cases hj : j < T.length
      · rw [List.getElem?_append_left hj] at hq
        exact ht j q hq p hp
      · rw [List.getElem?_append_right (by omega)] at hq
        by_cases hj2 : j = T.length
        · subst hj2
          simp at hq
          subst hq
          have := r2 p hp
          omega
        · rw [List.getElem?_eq_none (by simp; omega)] at hq; cases hq
  · refine ⟨T, ?_, ht, by rw [if_neg c]; rfl, hs, hpa⟩
    have c1 : ¬ k = lo := fun z => c (.inl z)
    have c2 : ¬ k < ns.length := fun z => c (.inr z)
    unfold law_tree_w1
    simp [c1, c2]
theorem tree_ok' (ns : List Int) (lo hi : Int) (nms ws : List Str) (h0 : 0 ≤ lo) (hlo : lo ≤ 1000) (hlh : lo < hi) (hh : hi ≤ lo + 100) (hn : 0 < nms.length) (hw : ws.length ≤ 1000) :
    ∃ T : List Rt, law_tree_f [.list (ns.map PyData.int), .int lo, .int hi, .list (nms.map PyData.str), .list (ws.map PyData.str)] = .ok (.ol (T.map encRt)) ∧ TreeOk T ∧ 0 < T.length ∧ T.length ≤ (hi - lo).toNat ∧ (∀ r ∈ T, RtSm r) ∧ ParOk T := by
  obtain ⟨ρ', e1, T, e2, e3, e4, e5, e6, e7, e8⟩ := forF_inv (k := setD 6) (b := law_tree_w1) (fun i ρ => ∃ T : List Rt, ρ = [some (.d (.list (ns.map PyData.int))), some (.d (.int lo)), some (.d (.int hi)), some (.d (.list (nms.map PyData.str))), some (.d (.list (ws.map PyData.str))), some (.ol (T.map encRt)), none] ∧ TreeOk T ∧ T.length ≤ i ∧ (0 < i → 0 < T.length) ∧ (i ≤ 1 ∨ lo + (i : Int) - 1 < ns.length → T.length = i) ∧ (∀ r ∈ T, RtSm r) ∧ ParOk T) (rng lo hi) _ ⟨[], rfl, (fun _ _ h => nomatch h), Nat.le_refl _, (fun h => h), (fun _ => rfl), (fun _ h => nomatch h), fun _ _ h => nomatch h⟩ (by
    rintro i x _ hx ⟨T, rfl, a1, a2, a3, a4, a5, a6⟩
    obtain ⟨rfl, hi'⟩ := rng_at hx
    obtain ⟨T', b1, b2, b3, b4, b5⟩ := tree_w1_ok ns lo hi nms ws T (lo + (i : Nat)) h0 (by omega) hn hw (by omega) a1 (by omega) (fun c => by have := a4 (by omega); omega) a5 a6
    refine ⟨_, _, rfl, .inl b1, T', rfl, b2, ?_, ?_, ?_, b4, b5⟩
    · rw [b3]; split <;> omega
    · intro _
      rw [b3]
      by_cases hi0 : i = 0
      · rw [if_pos (.inl (by omega))]; omega
      · have := a3 (by omega); omega
    · intro c
      rw [b3, if_pos (by omega), a4 (by omega)])
  subst e2
  rw [rng_len] at e4 e5
  refine ⟨T, ?_, e3, e5 (by omega), e4, e7, e8⟩
  have hb : ∀ ρ, ρ = [some (.d (.list (ns.map PyData.int))), some (.d (.int lo)), some (.d (.int hi)), some (.d (.list (nms.map PyData.str))), some (.d (.list (ws.map PyData.str))), none, none] → law_tree_b ρ = .ok (.rt (.ol (T.map encRt))) := by
    rintro _ rfl
    unfold law_tree_b
    exact seq_nx (asg_nx (r := .ol []) rfl rfl) (seq_nx (forS_rng2 (i := lo) (j := hi) (by simp) (by simp) (okR_of (by omega) (by omega)) (okR_of (by omega) (by omega)) e1) rfl)
  exact runB_rt (hb _ rfl) rfl
theorem inS_strs0 (neg : Bool) (x : Str) (S : List Str) : inS neg (.d (.str x)) (.d (.list (S.map PyData.str))) = .ok (.d (.bool (if neg then !decide (x ∈ S) else decide (x ∈ S)))) :=
  inS_enc PyData.str 0 (by omega) (fun _ => rfl) (fun _ => Nat.le_refl _) (fun a b => by simp [PyData.eqv, Bool.beq_eq_decide_eq]) neg x S (.inr rfl)
/-! ### x, xx, xxx .. -/
def xk (m : Nat) : Str := Txt.mul "x" (m : Int)
theorem xk_eq (m : Nat) (h : 1 ≤ m) : xk m = ⟨(List.replicate m (#[120] : Array Nat)).foldl (· ++ ·) #[]⟩ := by
  unfold xk Txt.mul
  rw [if_neg (by omega)]
  by_cases c : m = 1
  · subst c; rfl
  · have e : (((m : Int) == 1) || ("x" : Str).length == 0) = false := by
      have : ((m : Int) == 1) = false := beq_eq_false_iff_ne.mpr (by omega)
      rw [this]; rfl
    rw [e]
    simp only [Bool.false_eq_true, if_false, Int.toNat_natCast]
    rfl
theorem xk_one : xk 1 = "x" := rfl
theorem xk_succ (m : Nat) (h : 1 ≤ m) : xk m ++ "x" = xk (m + 1) := by
  rw [xk_eq m h, xk_eq (m + 1) (by omega), List.replicate_succ', List.foldl_append]
  rfl
theorem xk_len (m : Nat) (h : 1 ≤ m) : (xk m).length = m := by
  induction m with
  | zero => omega
  | succ m ih =>
    by_cases c : m = 0
    · subst c; rfl
    · have e := len_app (xk m) "x"
      rw [xk_succ m (by omega)] at e
      rw [e, ih (by omega)]; rfl
/-- the first of them from m on that is not in W, in at most k steps -/
def fx (W : List Str) : Nat → Nat → Nat
  | 0, m => m
  | k + 1, m => if xk m ∈ W then fx W k (m + 1) else m
def lng (W : List Str) (m : Nat) : Nat := W.countP fun w => decide (m ≤ w.length)
theorem lng_le (W : List Str) (m : Nat) : lng W (m + 1) ≤ lng W m := List.countP_mono_left fun w _ h => by simp at h ⊢; omega
theorem lng_lt {W : List Str} {m : Nat} (hm : 1 ≤ m) (h : xk m ∈ W) : lng W (m + 1) < lng W m := by
  induction W with
  | nil => cases h
  | cons w W ih =>
    have hle := lng_le W m
    unfold lng at hle ih ⊢
    rw [List.countP_cons, List.countP_cons]
    rcases List.mem_cons.mp h with rfl | h
    · have := xk_len m hm
      have n1 : ¬ m + 1 ≤ m := by omega
      simp [this, n1]; omega
    · have := ih h
      by_cases c : m + 1 ≤ w.length
      · have c2 : m ≤ w.length := by omega
        simp [c, c2]; omega
      · by_cases c2 : m ≤ w.length
        · simp [c, c2]; omega
        · simp [c, c2]; omega
theorem fx_out (W : List Str) : ∀ (k m : Nat), 1 ≤ m → lng W m < k → xk (fx W k m) ∉ W ∧ m ≤ fx W k m
  | 0, m, _, h => by omega
  | k + 1, m, hm, h => by
    unfold fx
    by_cases c : xk m ∈ W
    · rw [if_pos c]
      have := lng_lt hm c
      obtain ⟨h1, h2⟩ := fx_out W k (m + 1) (by omega) (by omega)
      exact ⟨h1, by omega⟩
    · rw [if_neg c]; exact ⟨c, Nat.le_refl _⟩
theorem fx_le (W : List Str) : ∀ (k m : Nat), fx W k m ≤ m + k
  | 0, m => Nat.le_refl _
  | k + 1, m => by
    unfold fx
    split
    · have := fx_le W k (m + 1); omega
    · omega
theorem fx_stable (W W' : List Str) (hW : ∀ w, w ∈ W ↔ w ∈ W') : ∀ (k k' m : Nat), 1 ≤ m → lng W m < k → lng W' m < k' → fx W k m = fx W' k' m
  | 0, _, m, _, h, _ => by omega
  | _, 0, m, _, _, h => by omega
  | k + 1, k' + 1, m, hm, h, h' => by
    unfold fx
    by_cases c : xk m ∈ W
    · have c' := (hW _).mp c
      rw [if_pos c, if_pos c']
      have := lng_lt hm c
      have := lng_lt hm c'
      exact fx_stable W W' hW k k' (m + 1) (by omega) (by omega) (by omega)
    · rw [if_neg c, if_neg (fun z => c ((hW _).mpr z))]
theorem lng_len (W : List Str) (m : Nat) : lng W m ≤ W.length := List.countP_le_length
/-! ### names and choices -/
def addU (N : List Str) (n : Str) : List Str := if n ∈ N then N else N ++ [n]
def namesM (ms : List Mat) : List Str := (ms.map (·.nm)).foldl addU []
def wsM (ms : List Mat) (n : Str) : List Str := (ms.filter fun m => decide (m.nm = n)).flatMap (·.vs)
def baseW (W : List Str) : List Str := W.foldl addU [("" : Str)]
def choiceW (W : List Str) : List Str := if ("" : Str) ∈ W then baseW W ++ [xk (fx W (W.length + 1) 1)] else baseW W
theorem mem_addU (N : List Str) (n x : Str) : x ∈ addU N n ↔ x ∈ N ∨ x = n := by
  unfold addU
  split
  · rename_i h
    exact ⟨.inl, fun z => z.elim id fun e => e ▸ h⟩
  · simp
theorem mem_foldU : ∀ (W N : List Str) (x : Str), x ∈ W.foldl addU N ↔ x ∈ N ∨ x ∈ W
  | [], N, x => by simp
  | w :: W, N, x => by
    rw [List.foldl_cons, mem_foldU W, mem_addU, List.mem_cons]
    constructor
    · rintro ((h | h) | h)
      · exact .inl h
      · exact .inr (.inl h)
      · exact .inr (.inr h)
    · rintro (h | h | h)
      · exact .inl (.inl h)
      · exact .inl (.inr h)
      · exact .inr h
theorem nodup_foldU : ∀ (W N : List Str), N.Nodup → (W.foldl addU N).Nodup
  | [], N, h => h
  | w :: W, N, h => by
    rw [List.foldl_cons]
    refine nodup_foldU W _ ?_
    unfold addU
    split
    · exact h
    · rename_i hn
      rw [List.nodup_append]
      exact ⟨h, by simp, fun a ha b hb e => hn (by simp at hb; rw [← hb, ← e]; exact ha)⟩
theorem foldU_len : ∀ (W N : List Str), (W.foldl addU N).length ≤ N.length + W.length
  | [], N => Nat.le_refl _
  | w :: W, N => by
    rw [List.foldl_cons]
    have := foldU_len W (addU N w)
    have h2 : (addU N w).length ≤ N.length + 1 := by unfold addU; split <;> simp
    simp; omega
/-! ### rows -/
abbrev Prs := List (Str × Str)
def timesP (R : List Prs) (n : Str) (cs : List Str) : List Prs := R.flatMap fun p => cs.map fun w => p ++ [(n, w)]
theorem timesP_len (R : List Prs) (n : Str) (cs : List Str) : (timesP R n cs).length = R.length * cs.length := by
  induction R with
  | nil => simp [timesP]
  | cons p R ih =>
    show ((cs.map fun w => p ++ [(n, w)]) ++ timesP R n cs).length = _
    rw [List.length_append, ih, List.length_map, List.length_cons, Nat.succ_mul]; omega
/-- the rows of all names; none if there are more than 300 -/
def rowsP (ms : List Mat) : List Str → List Prs → Option (List Prs)
  | [], R => some R
  | n :: ns, R => if 300 < R.length * (choiceW (wsM ms n)).length then none else rowsP ms ns (timesP R n (choiceW (wsM ms n)))
def finP (p : Prs) : Lab := (p.filter fun q => !decide (q.2 = ("" : Str))).mergeSort fun a b => PySem.W.dataLe false id (encP a) (encP b)
def samplesP (ms : List Mat) : Option (List Lab) := (rowsP ms (namesM ms) [[]]).map fun R => R.map finP
/-! ### the program's choices -/
def putT (d : List (Str × Bool)) (w : Str) : List (Str × Bool) := Pl.putF d w true
theorem putT_fold : ∀ (W : List Str) (d : List (Str × Bool)) (x : Str), (lkp (W.foldl putT d) x).isSome = (decide (x ∈ W) || (lkp d x).isSome)
  | [], d, x => by simp
  | w :: W, d, x => by
    rw [List.foldl_cons, putT_fold W]
    unfold putT
    rw [lkp_put]
    by_cases c : x = w
    · simp [c]
    · rw [if_neg c]; simp [c]
theorem putT_len : ∀ (W : List Str) (d : List (Str × Bool)), (W.foldl putT d).length ≤ d.length + W.length
  | [], d => Nat.le_refl _
  | w :: W, d => by
    rw [List.foldl_cons]
    have := putT_len W (putT d w)
    have h2 : (putT d w).length ≤ d.length + 1 := putF_len d w true
    simp; omega
abbrev eCh (M : D) (n : Str) (f : List Str) (d : List (Str × Bool)) (a4 a5 a6 : Option SV) : En := [some (.d M), some (.d (.str n)), some (.ol (f.map PyData.str)), some (.od (encK PyData.bool d)), a4, a5, a6]
theorem choices_w1_ok (M : D) (n : Str) (f : List Str) (d : List (Str × Bool)) (a4 : Option SV) (w : Str) (hf : f.length ≤ 100000) (hd : d.length ≤ 100000) : choices_w1 (eCh M n f d a4 (some (.d (.str w))) none) = .ok (.nx (eCh M n (addU f w) (putT d w) a4 none none)) := by
  have hz := line16
  have hl : (encK PyData.bool d).length = d.length := by unfold encK; rw [List.length_map]
  have pd := putD_enc PyData.bool d w true
  have m := inS_strsO true w f
  have hs : (encK PyData.bool d).length < sizeLine := by omega
  have hs2 : f.length < sizeLine := by omega
  unfold choices_w1
  refine kill_nx (ρ1 := eCh M n (addU f w) (putT d w) a4 (some (.d (.str w))) none) ?_ rfl
  refine seq_nx (ρ1 := eCh M n f (putT d w) a4 (some (.d (.str w))) none) ?_ ?_
  · have pd' : putD (encK PyData.bool d) (Sum.inr w) (.bool true) = encK PyData.bool (putT d w) := pd
    simp [hs, pd']
  · unfold addU
    generalize encK PyData.bool (putT d w) = Z at *
    by_cases c : w ∈ f
    · rw [decide_eq_true c] at m
      rw [if_pos c]
      simp only [if_true] at m
      simp [m]
    · rw [decide_eq_false c] at m
      rw [if_neg c]
      simp only [if_true] at m
      simp [m, hs2]
theorem choices_in (M : D) (n : Str) (a4 : Option SV) : ∀ (W f : List Str) (d : List (Str × Bool)), f.length + W.length ≤ 100000 → d.length + W.length ≤ 100000 → forF (setD 5) choices_w1 (W.map PyData.str) (eCh M n f d a4 none none) = .ok (.nx (eCh M n (W.foldl addU f) (W.foldl putT d) a4 none none))
  | [], f, d, _, _ => rfl
  | w :: W, f, d, h1, h2 => by
    simp at h1 h2
    have e := choices_w1_ok M n f d a4 w (by omega) (by omega)
    have l1 : (addU f w).length ≤ f.length + 1 := by unfold addU; split <;> simp
    have l2 : (putT d w).length ≤ d.length + 1 := putF_len d w true
    rw [List.map_cons, forF]
    show (match R.ok (eCh M n f d a4 (some (.d (.str w))) none) with | R.ok ρ1 => (choices_w1 ρ1 >>= _) | _ => R.bad) = _
    simp only [e, ok_bind]
    exact choices_in M n a4 W (addU f w) (putT d w) (by omega) (by omega)
theorem wsM_cons (m : Mat) (ms : List Mat) (n : Str) : wsM (m :: ms) n = (if m.nm = n then m.vs else []) ++ wsM ms n := by
  unfold wsM
  by_cases c : m.nm = n
  · rw [List.filter_cons_of_pos (by simp [c]), if_pos c, List.flatMap_cons]
  · rw [List.filter_cons_of_neg (by simp [c]), if_neg c, List.nil_append]
theorem choices_out (M : D) (n : Str) : ∀ (ms : List Mat) (f : List Str) (d : List (Str × Bool)), f.length + (wsM ms n).length ≤ 100000 → d.length + (wsM ms n).length ≤ 100000 → forF (setD 4) choices_w2 (ms.map encMt) (eCh M n f d none none none) = .ok (.nx (eCh M n ((wsM ms n).foldl addU f) ((wsM ms n).foldl putT d) none none none))
  | [], f, d, _, _ => rfl
  | m :: ms, f, d, h1, h2 => by
    rw [wsM_cons] at h1 h2 ⊢
    have i0 : ixS (.d (encMt m)) (.d (.int 0)) = .ok (.d (.str m.nm)) := rfl
    have i1 : ixS (.d (encMt m)) (.d (.int 1)) = .ok (.d (.tuple (m.vs.map PyData.str))) := rfl
    rw [List.map_cons, forF]
    show (match R.ok (eCh M n f d (some (.d (encMt m))) none none) with | R.ok ρ1 => (choices_w2 ρ1 >>= _) | _ => R.bad) = _
    have te : asT (bin (eqS false) (bin ixS (peek 4) (kon (.int 0))) (peek 1)) (eCh M n f d (some (.d (encMt m))) none none) = .ok (decide (m.nm = n)) := by
      generalize encK PyData.bool d = Z at *
      generalize encMt m = Y at *
      simp [i0]
    by_cases c : m.nm = n
    · rw [if_pos c] at h1 h2 ⊢
      rw [List.length_append] at h1 h2
      have e : choices_w2 (eCh M n f d (some (.d (encMt m))) none none) = .ok (.nx (eCh M n (m.vs.foldl addU f) (m.vs.foldl putT d) none none none)) := by
        unfold choices_w2
        refine kill_nx (ρ1 := eCh M n (m.vs.foldl addU f) (m.vs.foldl putT d) (some (.d (encMt m))) none none) ?_ rfl
        rw [ifS_ap, te, ok_bind, decide_eq_true c, if_pos rfl, forS_ap, seqD_ap]
        have e1 : bin ixS (peek 4) (kon (.int 1)) (eCh M n f d (some (.d (encMt m))) none none) = .ok (.d (.tuple (m.vs.map PyData.str))) := i1
        rw [e1]
        exact choices_in M n _ m.vs f d (by omega) (by omega)
      simp only [e, ok_bind]
      have l1 := foldU_len m.vs f
      have l2 := putT_len m.vs d
      rw [List.foldl_append, List.foldl_append]
      exact choices_out M n ms _ _ (by omega) (by omega)
    · rw [if_neg c, List.nil_append] at h1 h2 ⊢
      have e : choices_w2 (eCh M n f d (some (.d (encMt m))) none none) = .ok (.nx (eCh M n f d none none none)) := by
        unfold choices_w2
        refine kill_nx (ρ1 := eCh M n f d (some (.d (encMt m))) none none) ?_ rfl
        rw [ifS_ap, te, ok_bind, decide_eq_false c]; rfl
      simp only [e, ok_bind]
      exact choices_out M n ms f d h1 h2
theorem choices_wh (M : D) (n : Str) (f W : List Str) (d : List (Str × Bool)) (hd : ∀ x, (lkp d x).isSome = decide (x ∈ W)) : ∀ (k m : Nat), 1 ≤ m → lng W m < k → m + k ≤ 2000000 → whileF k choices_t1 choices_w3 (eCh M n f d none none (some (.d (.str (xk m))))) = .ok (.nx (eCh M n f d none none (some (.d (.str (xk (fx W k m)))))))
  | 0, m, _, h, _ => by omega
  | k + 1, m, hm, h, hk => by
    have hz := line16
    have te : choices_t1 (eCh M n f d none none (some (.d (.str (xk m))))) = .ok (decide (xk m ∈ W)) := by
      have q := hd (xk m)
      unfold choices_t1
      rw [asT_ap, inDS_ap]
      show (R.ok (SV.d (.bool (valD (encK PyData.bool d) (.inr (xk m))).isSome)) >>= bool1) = _
      rw [valD_enc, valF_lkp, Option.isSome_map, q]; rfl
    unfold whileF fx
    rw [te, ok_bind]
    by_cases c : xk m ∈ W
    · have lt := lng_lt hm c
      have xl := xk_len m hm
      have ad : addS (.d (.str (xk m))) (.d (.str "x")) = .ok (.d (.str (xk (m + 1)))) := by
        show (if (xk m).length + ("x" : Str).length ≤ sizeLine then R.ok (SV.d (.str (xk m ++ "x"))) else .bad) = _
        have e1 : ("x" : Str).length = 1 := rfl
        rw [if_pos (by omega), xk_succ m hm]
      have e : choices_w3 (eCh M n f d none none (some (.d (.str (xk m))))) = .ok (.nx (eCh M n f d none none (some (.d (.str (xk (m + 1))))))) := by
        unfold choices_w3
        generalize encK PyData.bool d = Z at *
        simp [ad]
      rw [decide_eq_true c, if_pos rfl, if_pos c, e]
      exact choices_wh M n f W d hd k (m + 1) (by omega) (by omega) (by omega)
    · rw [decide_eq_false c, if_neg c]; rfl
theorem choices_ok (ms : List Mat) (n : Str) (h : (wsM ms n).length ≤ 10000) : choices_f [.list (ms.map encMt), .str n] = .ok (.ol ((choiceW (wsM ms n)).map PyData.str)) := by
  have hz := line16
  have lo := choices_out (.list (ms.map encMt)) n ms [("" : Str)] [] (by simp; omega) (by simp; omega)
  have hd : ∀ x, (lkp ((wsM ms n).foldl putT []) x).isSome = decide (x ∈ wsM ms n) := fun x => by rw [putT_fold]; simp [lkp]
  have lb := foldU_len (wsM ms n) [("" : Str)]
  generalize hW : wsM ms n = W at *
  have hb : ∀ ρ, ρ = [some (.d (.list (ms.map encMt))), some (.d (.str n)), none, none, none, none, none] → choices_b ρ = .ok (.rt (.ol ((choiceW W).map PyData.str))) := by
    rintro _ rfl
    unfold choices_b
    refine seq_nx (ρ1 := [some (.d (.list (ms.map encMt))), some (.d (.str n)), some (.ol (([""] : List Str).map PyData.str)), none, none, none, none]) rfl ?_
    refine seq_nx (ρ1 := eCh (.list (ms.map encMt)) n [("" : Str)] [] none none none) rfl ?_
    refine seq_nx (ρ1 := eCh (.list (ms.map encMt)) n (baseW W) (W.foldl putT []) none none none) ?_ ?_
    · rw [forS_ap, seqD_ap]
      exact lo
    generalize W.foldl putT [] = d at *
    have te : asT (inDS false 3 (kon (.str ""))) (eCh (.list (ms.map encMt)) n (baseW W) d none none none) = .ok (decide (("" : Str) ∈ W)) := by
      rw [asT_ap, inDS_ap]
      show (R.ok (SV.d (.bool (valD (encK PyData.bool d) (.inr ("" : Str))).isSome)) >>= bool1) = _
      rw [valD_enc, valF_lkp, Option.isSome_map, hd]; rfl
    by_cases c : ("" : Str) ∈ W
    · have st := fx_stable W W (fun _ => Iff.rfl) 1000000 (W.length + 1) 1 (by omega) (by have := lng_len W 1; omega) (by have := lng_len W 1; omega)
      have wl := choices_wh (.list (ms.map encMt)) n (baseW W) W d hd 1000000 1 (by omega) (by have := lng_len W 1; omega) (by omega)
      rw [st] at wl
      have hbl : (baseW W).length < sizeLine := by
        have : (baseW W).length ≤ 1 + W.length := lb
        omega
      unfold choiceW
      rw [if_pos c]
      refine seq_nx (ρ1 := eCh (.list (ms.map encMt)) n (baseW W ++ [xk (fx W (W.length + 1) 1)]) d none none (some (.d (.str (xk (fx W (W.length + 1) 1)))))) ?_ rfl
      rw [ifS_ap, te, ok_bind, decide_eq_true c, if_pos rfl]
      refine seq_nx (ρ1 := eCh (.list (ms.map encMt)) n (baseW W) d none none (some (.d (.str (xk 1))))) rfl ?_
      refine seq_nx (ρ1 := eCh (.list (ms.map encMt)) n (baseW W) d none none (some (.d (.str (xk (fx W (W.length + 1) 1)))))) wl ?_
      generalize xk (fx W (W.length + 1) 1) = X at *
      generalize encK PyData.bool d = Z at *
      simp [hbl]
    · unfold choiceW
      rw [if_neg c]
      refine seq_nx (ρ1 := eCh (.list (ms.map encMt)) n (baseW W) d none none none) ?_ rfl
      rw [ifS_ap, te, ok_bind, decide_eq_false c]; rfl
  exact runB_rt (hb _ rfl) rfl
/-! ### sample_alerts -/
theorem wsM_len (n : Str) : ∀ ms : List Mat, (∀ m ∈ ms, m.vs.length ≤ 100) → (wsM ms n).length ≤ 100 * ms.length
  | [], _ => Nat.le_refl _
  | m :: ms, h => by
    have ih := wsM_len n ms fun x hx => h x (List.mem_cons_of_mem _ hx)
    have h0 := h m List.mem_cons_self
    rw [wsM_cons, List.length_append, List.length_cons]
    split
    · omega
    · simp; omega
theorem choiceW_len (W : List Str) : (choiceW W).length ≤ W.length + 2 := by
  have h : (baseW W).length ≤ 1 + W.length := foldU_len W [("" : Str)]
  unfold choiceW
  split
  · rw [List.length_append]; simp; omega
  · omega
theorem sa_names (M : D) : ∀ (ms : List Mat) (N : List Str), N.length + ms.length ≤ 100000 → forF (setD 2) sample_alerts_w1 (ms.map encMt) [some (.d M), some (.ol (N.map PyData.str)), none, none, none, none, none, none, none, none] = .ok (.nx [some (.d M), some (.ol (((ms.map (·.nm)).foldl addU N).map PyData.str)), none, none, none, none, none, none, none, none])
  | [], N, _ => rfl
  | m :: ms, N, h => by
    have hz := line16
    simp at h
    have i0 : ixS (.d (encMt m)) (.d (.int 0)) = .ok (.d (.str m.nm)) := rfl
    have mm := inS_strsO true m.nm N
    have hs : N.length < sizeLine := by omega
    have l1 : (addU N m.nm).length ≤ N.length + 1 := by unfold addU; split <;> simp
    have e : sample_alerts_w1 [some (.d M), some (.ol (N.map PyData.str)), some (.d (encMt m)), none, none, none, none, none, none, none] = .ok (.nx [some (.d M), some (.ol ((addU N m.nm).map PyData.str)), none, none, none, none, none, none, none, none]) := by
      unfold sample_alerts_w1 addU
      generalize encMt m = Y at *
      by_cases c : m.nm ∈ N
      · rw [decide_eq_true c] at mm
        rw [if_pos c]
        simp only [if_true] at mm
        simp [i0, mm]
      · rw [decide_eq_false c] at mm
        rw [if_neg c]
        simp only [if_true] at mm
        simp [i0, mm, hs]
    rw [List.map_cons, forF]
    show (match R.ok [some (.d M), some (.ol (N.map PyData.str)), some (.d (encMt m)), none, none, none, none, none, none, none] with | R.ok ρ1 => (sample_alerts_w1 ρ1 >>= _) | _ => R.bad) = _
    simp only [e, ok_bind]
    exact sa_names M ms (addU N m.nm) (by omega)
def cntP : List Nat → Nat → Bool
  | [], _ => false
  | l :: ls, a => if 300 < a * l then true else cntP ls (a * l)
def strsD (r : List Str) : D := .list (r.map PyData.str)
theorem count_loop (W0 : D) : ∀ (rows : List (List Str)) (a : Nat), a ≤ 300 → (∀ r ∈ rows, r.length ≤ 100000) → (cntP (rows.map (·.length)) a = true → forF (setD 2) count_w1 (rows.map strsD) [some (.d W0), some (.d (.int (a : Nat))), none] = .ex 0 [])
    ∧ (cntP (rows.map (·.length)) a = false → ∃ b : Nat, forF (setD 2) count_w1 (rows.map strsD) [some (.d W0), some (.d (.int (a : Nat))), none] = .ok (.nx [some (.d W0), some (.d (.int (b : Nat))), none]))
  | [], a, _, _ => ⟨fun h => (by cases h), fun _ => ⟨a, rfl⟩⟩
  | r :: rows, a, ha, h => by
    have hr := h r List.mem_cons_self
    have ln : lenS [.d (strsD r)] = .ok (.d (.int (r.length : Nat))) := by
      show R.ok (SV.d (.int ((r.map PyData.str).length : Nat))) = _
      rw [List.length_map]
    have mu : mulA (.d (.int (a : Nat))) (.d (.int (r.length : Nat))) = .ok (.d (.int ((a * r.length : Nat) : Int))) := by
      rw [mulA_i, okM_of (j := (a : Int)) (by omega) (by omega)]
      simp
    have e : count_w1 [some (.d W0), some (.d (.int (a : Nat))), some (.d (strsD r))] = if 300 < a * r.length then .ex 0 [] else .ok (.nx [some (.d W0), some (.d (.int ((a * r.length : Nat) : Int))), none]) := by
      unfold count_w1
      generalize strsD r = Y at *
      generalize a * r.length = b at *
      by_cases c : 300 < b
      · have c' : (300 : Int) < (b : Nat) := by omega
        rw [if_pos c]
        simp [ln, mu, c']
      · have c' : ¬ (300 : Int) < (b : Nat) := by omega
        rw [if_neg c]
        simp [ln, mu, c']
    have st : ∀ z : R Fl, z = forF (setD 2) count_w1 ((r :: rows).map strsD) [some (.d W0), some (.d (.int (a : Nat))), none] → z = (count_w1 [some (.d W0), some (.d (.int (a : Nat))), some (.d (strsD r))] >>= fun fl => match fl with
        | .nx ρ' => forF (setD 2) count_w1 (rows.map strsD) ρ'
        | .ct ρ' => forF (setD 2) count_w1 (rows.map strsD) ρ'
        | .bk ρ' => .ok (.nx ρ')
        | .rt r => .ok (.rt r)) := by
      rintro z rfl
      rw [List.map_cons, forF]; rfl
    have st := st _ rfl
    rw [st, e]
    have cc : cntP ((r :: rows).map (·.length)) a = if 300 < a * r.length then true else cntP (rows.map (·.length)) (a * r.length) := rfl
    rw [cc]
    by_cases c : 300 < a * r.length
    · rw [if_pos c, if_pos c]
      exact ⟨fun _ => rfl, fun z => (by cases z)⟩
    · rw [if_neg c, if_neg c, ok_bind]
      exact count_loop W0 rows (a * r.length) (by omega) fun x hx => h x (List.mem_cons_of_mem _ hx)
theorem count_ok (rows : List (List Str)) (h : ∀ r ∈ rows, r.length ≤ 100000) : (cntP (rows.map (·.length)) 1 = true → count_f [.list (rows.map strsD)] = .ex 0 []) ∧ (cntP (rows.map (·.length)) 1 = false → count_f [.list (rows.map strsD)] = .ok (.d .none)) := by
  obtain ⟨l1, l2⟩ := count_loop (.list (rows.map strsD)) rows 1 (by omega) h
  constructor
  · intro c
    have e := l1 c
    show (count_b [some (.d (.list (rows.map strsD))), none, none] >>= _) = _
    have : count_b [some (.d (.list (rows.map strsD))), none, none] = .ex 0 [] := by
      unfold count_b
      refine seq_nx (ρ1 := [some (.d (.list (rows.map strsD))), some (.d (.int 1)), none]) rfl ?_
      rw [forS_ap, seqD_ap]
      exact e
    rw [this]; rfl
  · intro c
    obtain ⟨b, e⟩ := l2 c
    show (count_b [some (.d (.list (rows.map strsD))), none, none] >>= _) = _
    have : count_b [some (.d (.list (rows.map strsD))), none, none] = .ok (.nx [some (.d (.list (rows.map strsD))), some (.d (.int (b : Nat))), none]) := by
      unfold count_b
      refine seq_nx (ρ1 := [some (.d (.list (rows.map strsD))), some (.d (.int 1)), none]) rfl ?_
      rw [forS_ap, seqD_ap]
      exact e
    rw [this]; rfl
theorem rowsP_none (ms : List Mat) : ∀ (ns : List Str) (R : List Prs), cntP (ns.map fun n => (choiceW (wsM ms n)).length) R.length = true → rowsP ms ns R = none
  | [], R, h => by cases h
  | n :: ns, R, h => by
    have cc : cntP ((n :: ns).map fun n => (choiceW (wsM ms n)).length) R.length = if 300 < R.length * (choiceW (wsM ms n)).length then true else cntP (ns.map fun n => (choiceW (wsM ms n)).length) (R.length * (choiceW (wsM ms n)).length) := rfl
    rw [cc] at h
    unfold rowsP
    split
    · rfl
    · rename_i c
      rw [if_neg c, ← timesP_len R n] at h
      exact rowsP_none ms ns _ h
def allR (ms : List Mat) (ns : List Str) (R : List Prs) : List Prs := ns.foldl (fun R n => timesP R n (choiceW (wsM ms n))) R
theorem rowsP_some (ms : List Mat) : ∀ (ns : List Str) (R : List Prs), cntP (ns.map fun n => (choiceW (wsM ms n)).length) R.length = false → rowsP ms ns R = some (allR ms ns R)
  | [], R, h => rfl
  | n :: ns, R, h => by
    have cc : cntP ((n :: ns).map fun n => (choiceW (wsM ms n)).length) R.length = if 300 < R.length * (choiceW (wsM ms n)).length then true else cntP (ns.map fun n => (choiceW (wsM ms n)).length) (R.length * (choiceW (wsM ms n)).length) := rfl
    rw [cc] at h
    unfold rowsP
    split at h
    · cases h
    · rename_i c
      rw [if_neg c]
      rw [← timesP_len R n] at h
      exact rowsP_some ms ns _ h
abbrev eSA (M N RW : D) (R : List Prs) (a3 a6 a7 : Option SV) : En := [some (.d M), some (.d N), none, a3, some (.d RW), some (.ol (R.map encB)), a6, a7, none, none]
theorem lc2_times (M N RW R0 : D) (n : Str) (cs : List Str) : ∀ R : List Prs, (∀ p ∈ R, p.length ≤ 1000) → lc2F (setD 7) yesT (lcIn (seqD (getV 6)) (setD 8) yesT (bin addS (peek 7) (dispT (conA (dispT (conA (getV 3) (conA (getV 8) nilA))) nilA))) [8]) [some (.d M), some (.d N), none, some (.d (.str n)), some (.d RW), some (.d R0), some (.d (strsD cs)), none, none, none] (R.map encB) = .ok ((timesP R n cs).map encB)
  | [], _ => rfl
  | p :: R, h => by
    have hz := line16
    have hp := h p List.mem_cons_self
    have ih := lc2_times M N RW R0 n cs R fun x hx => h x (List.mem_cons_of_mem _ hx)
    have q := lcF_mapα PyData.str (k := setD 8) (t := yesT) (e := bin addS (peek 7) (dispT (conA (dispT (conA (getV 3) (conA (getV 8) nilA))) nilA))) (ρ0 := [some (.d M), some (.d N), none, some (.d (.str n)), some (.d RW), some (.d R0), some (.d (strsD cs)), some (.d (encB p)), none, none]) (fun _ => true) (fun w => encB (p ++ [(n, w)])) cs fun w _ => ⟨_, rfl, rfl, fun _ => ⟨.d (encB (p ++ [(n, w)])), by
      have ad : addS (.d (encB p)) (.d (.tuple [.tuple [.str n, .str w]])) = .ok (.d (encB (p ++ [(n, w)]))) := by
        show (if (p.map encP).length + 1 ≤ sizeLine then Pl.R.ok (SV.d (.tuple (p.map encP ++ [.tuple [.str n, .str w]]))) else Pl.R.bad) = Pl.R.ok (SV.d (.tuple ((p ++ [(n, w)]).map encP)))
        rw [if_pos (by rw [List.length_map]; omega), List.map_append]; rfl
      generalize encB p = Y at *
      generalize encB (p ++ [(n, w)]) = X at *
      generalize strsD cs = Z at *
      simp [ad], rfl⟩⟩
    rw [List.filter_eq_self.mpr fun _ _ => rfl] at q
    rw [List.map_cons, lc2F]
    show (lcF _ _ _ [some (.d M), some (.d N), none, some (.d (.str n)), some (.d RW), some (.d R0), some (.d (strsD cs)), some (.d (encB p)), none, none] (cs.map PyData.str) >>= fun ys => lc2F _ _ _ [some (.d M), some (.d N), none, some (.d (.str n)), some (.d RW), some (.d R0), some (.d (strsD cs)), none, none, none] (R.map encB) >>= fun zs => Pl.R.ok (ys ++ zs)) = _
    rw [q, ok_bind, ih, ok_bind]
    show _ = Pl.R.ok (((cs.map fun w => p ++ [(n, w)]) ++ timesP R n cs).map encB)
    rw [List.map_append, List.map_map]; rfl
theorem timesP_mem {R : List Prs} {n : Str} {cs : List Str} {q : Prs} (h : q ∈ timesP R n cs) : ∃ p ∈ R, ∃ w ∈ cs, q = p ++ [(n, w)] := by
  unfold timesP at h
  obtain ⟨p, hp, h⟩ := List.mem_flatMap.mp h
  obtain ⟨w, hw, rfl⟩ := List.mem_map.mp h
  exact ⟨p, hp, w, hw, rfl⟩
theorem enum_loop (M N RW : D) (ms : List Mat) : ∀ (ns : List Str) (R : List Prs), R.length ≤ 300 → (∀ p ∈ R, p.length + ns.length ≤ 1000) → cntP (ns.map fun n => (choiceW (wsM ms n)).length) R.length = false →
    forF (tupG 2 (gsC (setD 3) (gsC (setD 6) gsN))) sample_alerts_w2 (zipL (ns.map PyData.str) (ns.map fun n => strsD (choiceW (wsM ms n)))) (eSA M N RW R none none none) = .ok (.nx (eSA M N RW (allR ms ns R) none none none)) ∧ (allR ms ns R).length ≤ 300 ∧ ∀ p ∈ allR ms ns R, p.length ≤ 1000
  | [], R, hR, hp, _ => ⟨rfl, hR, fun p h => by have := hp p h; omega⟩
  | n :: ns, R, hR, hp, hc => by
    have hz := line16
    have cc : cntP ((n :: ns).map fun n => (choiceW (wsM ms n)).length) R.length = if 300 < R.length * (choiceW (wsM ms n)).length then true else cntP (ns.map fun n => (choiceW (wsM ms n)).length) (R.length * (choiceW (wsM ms n)).length) := rfl
    rw [cc] at hc
    split at hc
    · cases hc
    rename_i c
    have tl := timesP_len R n (choiceW (wsM ms n))
    rw [← tl] at hc
    have lt := lc2_times M N RW (.list (R.map encB)) n (choiceW (wsM ms n)) R fun p h => by have := hp p h; omega
    have e : sample_alerts_w2 (eSA M N RW R (some (.d (.str n))) (some (.d (strsD (choiceW (wsM ms n))))) none) = .ok (.nx (eSA M N RW (timesP R n (choiceW (wsM ms n))) none none none)) := by
      unfold sample_alerts_w2
      refine kill_nx (ρ1 := eSA M N RW (timesP R n (choiceW (wsM ms n))) (some (.d (.str n))) (some (.d (strsD (choiceW (wsM ms n))))) none) ?_ rfl
      rw [frzS_ap]
      refine asg_nx (ρ := [some (.d M), some (.d N), none, some (.d (.str n)), some (.d RW), some (.d (.list (R.map encB))), some (.d (strsD (choiceW (wsM ms n)))), none, none, none]) (r := .ol ((timesP R n (choiceW (wsM ms n))).map encB)) ?_ rfl
      unfold lcE2
      rw [if_pos (by rfl)]
      show (match lc2F _ _ _ [some (.d M), some (.d N), none, some (.d (.str n)), some (.d RW), some (.d (.list (R.map encB))), some (.d (strsD (choiceW (wsM ms n)))), none, none, none] (R.map encB) with
        | .ok ys => if ys.length < sizeLine then Pl.R.ok (SV.ol ys) else Pl.R.bad
        | _ => Pl.R.bad) = _
      rw [lt]
      simp only
      rw [if_pos (by rw [List.length_map, tl]; omega)]
    obtain ⟨h1, h2, h3⟩ := enum_loop M N RW ms ns (timesP R n (choiceW (wsM ms n))) (by rw [tl]; omega) (fun q hq => by
      obtain ⟨p, hp', w, _, rfl⟩ := timesP_mem hq
      have := hp p hp'
      simp at this ⊢; omega) hc
    refine ⟨?_, h2, h3⟩
    show forF _ _ (.tuple [.str n, strsD (choiceW (wsM ms n))] :: zipL (ns.map PyData.str) (ns.map fun n => strsD (choiceW (wsM ms n)))) (eSA M N RW R none none none) = _
    rw [forF]
    show (match Pl.R.ok (eSA M N RW R (some (.d (.str n))) (some (.d (strsD (choiceW (wsM ms n))))) none) with | .ok ρ1 => (sample_alerts_w2 ρ1 >>= _) | _ => Pl.R.bad) = _
    simp only [e, ok_bind]
    exact h1
theorem finP_ok (p : Prs) (ρ0 : En) (i j : Nat) (hi : ∀ x, (ρ0.set j (some (.d x)))[i]? = some (some (.d (encB p))) ∨ True) (h : p.length ≤ 1000) : Pl.sortedS [.ol ((p.filter fun q => !decide (q.2 = ("" : Str))).map encP)] = .ok (.ol ((finP p).map encP)) := by
  have hl := List.length_filter_le (fun q : Str × Str => !decide (q.2 = ("" : Str))) p
  obtain ⟨qs, a, _, c⟩ := sorted_pairs0 (p.filter fun q => !decide (q.2 = ("" : Str))) (by omega)
  rw [a, c]; rfl
/-- the pairs of a row that have a value -/
theorem keep_ok (i j : Nat) (p : Prs) (ρ0 : En) (h0 : ρ0[i]? = some (some (.d (encB p)))) (hw : wipeE ρ0 [j] = ρ0) (hj : j < ρ0.length) (h : p.length ≤ 1000) :
    lcE (seqD (getV i)) (setD j) (asT (bin (eqS true) (bin ixS (peek j) (kon (.int 1))) (kon (.str "")))) (getV j) [j] ρ0 = .ok (.ol ((p.filter fun q => !decide (q.2 = ("" : Str))).map encP)) := by
  have hz := line16
  have q := lcF_mapα encP (k := setD j) (t := asT (bin (eqS true) (bin ixS (peek j) (kon (.int 1))) (kon (.str "")))) (e := getV j) (ρ0 := ρ0) (fun q => !decide (q.2 = ("" : Str))) encP p fun q _ => by
    have g : (ρ0.set j (some (.d (encP q))))[j]? = some (some (.d (encP q))) := List.getElem?_set_self hj
    have i1 : ixS (.d (encP q)) (.d (.int 1)) = .ok (.d (.str q.2)) := rfl
    refine ⟨_, rfl, ?_, fun _ => ⟨.d (encP q), ?_, rfl⟩⟩
    · rw [asT_ap, bin_ap, bin_ap, peek_ap, g]
      show (ixS (.d (encP q)) (.d (.int 1)) >>= fun a => eqS true a (.d (.str ""))) >>= bool1 = _
      rw [i1, ok_bind, eqS_s]; rfl
    · rw [getV_ap, g]
  rw [lcE_ap]
  have e0 : seqD (getV i) ρ0 = .ok (p.map encP) := by
    rw [seqD_ap, getV_ap, h0]; rfl
  rw [e0, ok_bind, if_pos (by rw [List.length_map]; omega), hw, q, ok_bind]
theorem sample_alerts_ok (ms : List Mat) (h1 : ms.length ≤ 100) (h2 : ∀ m ∈ ms, m.vs.length ≤ 100) : sample_alerts_f [.list (ms.map encMt)] = (match samplesP ms with | none => .ex 0 [] | some L => .ok (.ol (L.map encB))) := by
  have hz := line16
  have nl := sa_names (.list (ms.map encMt)) ms [] (by simp; omega)
  have nlen : (namesM ms).length ≤ 100 := by have := foldU_len (ms.map (·.nm)) []; simp at this; unfold namesM; omega
  have cl : ∀ n, (choiceW (wsM ms n)).length ≤ 100000 := fun n => by have := choiceW_len (wsM ms n); have := wsM_len n ms h2; omega
  have en := enum_loop (.list (ms.map encMt)) (.list ((namesM ms).map PyData.str)) (.list ((namesM ms).map fun n => strsD (choiceW (wsM ms n)))) ms (namesM ms) [[]] (by simp) (fun p hp => by simp at hp; subst hp; simp; omega)
  obtain ⟨k1, k2⟩ := count_ok ((namesM ms).map fun n => choiceW (wsM ms n)) fun r hr => by
    obtain ⟨n, _, rfl⟩ := List.mem_map.mp hr
    exact cl n
  rw [List.map_map, List.map_map] at k1 k2
  have k1 : cntP ((namesM ms).map fun n => (choiceW (wsM ms n)).length) 1 = true → count_f [.list ((namesM ms).map fun n => strsD (choiceW (wsM ms n)))] = .ex 0 [] := k1
  have k2 : cntP ((namesM ms).map fun n => (choiceW (wsM ms n)).length) 1 = false → count_f [.list ((namesM ms).map fun n => strsD (choiceW (wsM ms n)))] = .ok (.d .none) := k2
  have rn := rowsP_none ms (namesM ms) [[]]
  have rs := rowsP_some ms (namesM ms) [[]]
  have rows := lcF_mapα PyData.str (k := setD 3) (t := yesT) (e := callF 2 choices_f (conA (getV 0) (conA (getV 3) nilA))) (ρ0 := [some (.d (.list (ms.map encMt))), some (.d (.list ((namesM ms).map PyData.str))), none, none, none, none, none, none, none, none]) (fun _ => true) (fun n => strsD (choiceW (wsM ms n))) (namesM ms) fun n _ => ⟨_, rfl, rfl, fun _ => ⟨.ol ((choiceW (wsM ms n)).map PyData.str), by
    have c := choices_ok ms n (by have := wsM_len n ms h2; omega)
    generalize (choiceW (wsM ms n)).map PyData.str = Y at *
    generalize ms.map encMt = Z at *
    simp [c], rfl⟩⟩
  rw [List.filter_eq_self.mpr fun _ _ => rfl] at rows
  have nl' : forF (setD 2) sample_alerts_w1 (ms.map encMt) [some (.d (.list (ms.map encMt))), some (.ol []), none, none, none, none, none, none, none, none] = .ok (.nx [some (.d (.list (ms.map encMt))), some (.ol ((namesM ms).map PyData.str)), none, none, none, none, none, none, none, none]) := nl
  unfold samplesP
  generalize namesM ms = N at *
  have pre : ∀ g : En → Pl.R Fl, ∀ z : Pl.R Fl, seqS (frzS [4] (exprS (callF 1 count_f (conA (getV 4) nilA)))) g [some (.d (.list (ms.map encMt))), some (.d (.list (N.map PyData.str))), none, none, some (.ol (N.map fun n => strsD (choiceW (wsM ms n)))), none, none, none, none, none] = z →
      seqS (asgS 1 (dispL nilA)) (seqS (forS (seqD (getV 0)) (setD 2) sample_alerts_w1) (seqS (frzS [1] (asgS 4 (lcE (seqD (getV 1)) (setD 3) yesT (callF 2 choices_f (conA (getV 0) (conA (getV 3) nilA))) [3]))) (seqS (frzS [4] (exprS (callF 1 count_f (conA (getV 4) nilA)))) g))) [some (.d (.list (ms.map encMt))), none, none, none, none, none, none, none, none, none] = z := by
    rintro g z rfl
    rw [seqS_ap]
    show seqS _ _ [some (.d (.list (ms.map encMt))), some (.ol []), none, none, none, none, none, none, none, none] = _
    rw [seqS_ap, forS_ap, seqD_ap]
    show ((forF (setD 2) sample_alerts_w1 (ms.map encMt) [some (.d (.list (ms.map encMt))), some (.ol []), none, none, none, none, none, none, none, none] : Pl.R Fl) >>= _) = _
    rw [nl', ok_bind]
    show seqS _ _ [some (.d (.list (ms.map encMt))), some (.ol (N.map PyData.str)), none, none, none, none, none, none, none, none] = _
    rw [seqS_ap, frzS_ap]
    show (asgS 4 _ [some (.d (.list (ms.map encMt))), some (.d (.list (N.map PyData.str))), none, none, none, none, none, none, none, none] >>= _) = _
    have el : lcE (seqD (getV 1)) (setD 3) yesT (callF 2 choices_f (conA (getV 0) (conA (getV 3) nilA))) [3] [some (.d (.list (ms.map encMt))), some (.d (.list (N.map PyData.str))), none, none, none, none, none, none, none, none] = .ok (.ol (N.map fun n => strsD (choiceW (wsM ms n)))) := by
      rw [lcE_ap]
      show ((if (N.map PyData.str).length < sizeLine then lcF _ _ _ [some (.d (.list (ms.map encMt))), some (.d (.list (N.map PyData.str))), none, none, none, none, none, none, none, none] (N.map PyData.str) >>= fun ys => Pl.R.ok (SV.ol ys) else Pl.R.bad) : Pl.R SV) = _
      rw [if_pos (by rw [List.length_map]; omega), rows, ok_bind]
    rw [asg_nx el rfl, ok_bind]; rfl
  cases c : cntP (N.map fun n => (choiceW (wsM ms n)).length) 1 with
  | true =>
    rw [rn c]
    have e : sample_alerts_b [some (.d (.list (ms.map encMt))), none, none, none, none, none, none, none, none, none] = .ex 0 [] := by
      unfold sample_alerts_b
      refine pre _ _ ?_
      have k := k1 c
      rw [seqS_ap, frzS_ap]
      show (exprS _ [some (.d (.list (ms.map encMt))), some (.d (.list (N.map PyData.str))), none, none, some (.d (.list (N.map fun n => strsD (choiceW (wsM ms n))))), none, none, none, none, none] >>= _) = _
      generalize N.map (fun n => strsD (choiceW (wsM ms n))) = Y at *
      generalize ms.map encMt = Z at *
      simp [k]
    show (sample_alerts_b [some (.d (.list (ms.map encMt))), none, none, none, none, none, none, none, none, none] >>= _) = _
    rw [e]; rfl
  | false =>
    rw [rs c]
    obtain ⟨en1, en2, en3⟩ := en c
    generalize allR ms N [[]] = R at *
    have e : sample_alerts_b [some (.d (.list (ms.map encMt))), none, none, none, none, none, none, none, none, none] = .ok (.rt (.ol ((R.map finP).map encB))) := by
      unfold sample_alerts_b
      refine pre _ _ ?_
      have k := k2 c
      refine seq_nx (ρ1 := [some (.d (.list (ms.map encMt))), some (.d (.list (N.map PyData.str))), none, none, some (.d (.list (N.map fun n => strsD (choiceW (wsM ms n))))), none, none, none, none, none]) ?_ ?_
      · rw [frzS_ap]
        show exprS _ [some (.d (.list (ms.map encMt))), some (.d (.list (N.map PyData.str))), none, none, some (.d (.list (N.map fun n => strsD (choiceW (wsM ms n))))), none, none, none, none, none] = _
        generalize N.map (fun n => strsD (choiceW (wsM ms n))) = Y at *
        generalize ms.map encMt = Z at *
        simp [k]
      refine seq_nx (ρ1 := eSA (.list (ms.map encMt)) (.list (N.map PyData.str)) (.list (N.map fun n => strsD (choiceW (wsM ms n)))) [[]] none none none) rfl ?_
      refine seq_nx (ρ1 := eSA (.list (ms.map encMt)) (.list (N.map PyData.str)) (.list (N.map fun n => strsD (choiceW (wsM ms n)))) R none none none) ?_ ?_
      · rw [frzS_ap]
        show forS _ _ _ (eSA (.list (ms.map encMt)) (.list (N.map PyData.str)) (.list (N.map fun n => strsD (choiceW (wsM ms n)))) [[]] none none none) = _
        rw [forS_ap]
        exact en1
      · rw [frzS_ap]
        show retS _ [some (.d (.list (ms.map encMt))), some (.d (.list (N.map PyData.str))), none, none, some (.d (.list (N.map fun n => strsD (choiceW (wsM ms n))))), some (.d (.list (R.map encB))), none, none, none, none] = _
        have q := lcF_mapα encB (k := setD 7) (t := yesT) (e := callB tupS (conB (callB sortedS (conB (lcE (seqD (getV 7)) (setD 9) (asT (bin (eqS true) (bin ixS (peek 9) (kon (.int 1))) (kon (.str "")))) (getV 9) [9]) nilB)) nilB)) (ρ0 := [some (.d (.list (ms.map encMt))), some (.d (.list (N.map PyData.str))), none, none, some (.d (.list (N.map fun n => strsD (choiceW (wsM ms n))))), some (.d (.list (R.map encB))), none, none, none, none]) (fun _ => true) (fun p => encB (finP p)) R fun p hp => ⟨_, rfl, rfl, fun _ => ⟨.d (encB (finP p)), by
          have kp := keep_ok 7 9 p [some (.d (.list (ms.map encMt))), some (.d (.list (N.map PyData.str))), none, none, some (.d (.list (N.map fun n => strsD (choiceW (wsM ms n))))), some (.d (.list (R.map encB))), none, some (.d (encB p)), none, none] rfl rfl (by simp) (en3 p hp)
          have fp := finP_ok p [] 0 0 (fun _ => .inr trivial) (en3 p hp)
          show callB tupS (conB (callB sortedS (conB (lcE _ _ _ _ _) nilB)) nilB) [some (.d (.list (ms.map encMt))), some (.d (.list (N.map PyData.str))), none, none, some (.d (.list (N.map fun n => strsD (choiceW (wsM ms n))))), some (.d (.list (R.map encB))), none, some (.d (encB p)), none, none] = _
          rw [callB_ap, conB_ap, callB_ap, conB_ap, kp, ok_bind]
          simp only [nilB_ap, ok_bind, fp]
          rfl, rfl⟩⟩
        rw [List.filter_eq_self.mpr fun _ _ => rfl] at q
        rw [retS_ap, lcE_ap]
        show ((if (R.map encB).length < sizeLine then lcF _ _ _ [some (.d (.list (ms.map encMt))), some (.d (.list (N.map PyData.str))), none, none, some (.d (.list (N.map fun n => strsD (choiceW (wsM ms n))))), some (.d (.list (R.map encB))), none, none, none, none] (R.map encB) >>= fun ys => Pl.R.ok (SV.ol ys) else Pl.R.bad) >>= fun r => Pl.R.ok (Fl.rt r)) = _
        rw [if_pos (by rw [List.length_map]; omega), q, List.map_map]; rfl
    exact runB_rt e rfl
/-! ### the law's own samples -/
theorem law_times_ok (R : List Prs) (n : Str) (cs : List Str) (h : ∀ p ∈ R, p.length ≤ 1000) (hl : R.length * cs.length ≤ 100000) : law_times_f [.list (R.map encB), .str n, .list (cs.map PyData.str)] = .ok (.ol ((timesP R n cs).map encB)) := by
  have hz := line16
  have inner : ∀ (p : Prs) (u : List Str) (O : List Prs), p.length ≤ 1000 → O.length + u.length ≤ 1000000 → forF (setD 5) law_times_w1 (u.map PyData.str) [some (.d (.list (R.map encB))), some (.d (.str n)), some (.d (.list (cs.map PyData.str))), some (.ol (O.map encB)), some (.d (encB p)), none] = .ok (.nx [some (.d (.list (R.map encB))), some (.d (.str n)), some (.d (.list (cs.map PyData.str))), some (.ol ((O ++ u.map fun w => p ++ [(n, w)]).map encB)), some (.d (encB p)), none]) := by
    intro p u
    induction u with
    | nil => intro O _ _; rw [List.map_nil, List.map_nil, List.append_nil]; rfl
    | cons w u ih =>
      intro O hp ho
      simp at ho
      have ad : addS (.d (encB p)) (.d (.tuple [.tuple [.str n, .str w]])) = .ok (.d (encB (p ++ [(n, w)]))) := by
        show (if (p.map encP).length + 1 ≤ sizeLine then Pl.R.ok (SV.d (.tuple (p.map encP ++ [.tuple [.str n, .str w]]))) else Pl.R.bad) = Pl.R.ok (SV.d (.tuple ((p ++ [(n, w)]).map encP)))
        rw [if_pos (by rw [List.length_map]; omega), List.map_append]; rfl
      have hs : O.length < sizeLine := by omega
      have e : law_times_w1 [some (.d (.list (R.map encB))), some (.d (.str n)), some (.d (.list (cs.map PyData.str))), some (.ol (O.map encB)), some (.d (encB p)), some (.d (.str w))] = .ok (.nx [some (.d (.list (R.map encB))), some (.d (.str n)), some (.d (.list (cs.map PyData.str))), some (.ol ((O ++ [p ++ [(n, w)]]).map encB)), some (.d (encB p)), none]) := by
        unfold law_times_w1
        rw [List.map_append]
        simp only [List.map_cons, List.map_nil]
        generalize encB (p ++ [(n, w)]) = X at *
        generalize encB p = Y at *
        simp [ad, hs]
      have ih' := ih (O ++ [p ++ [(n, w)]]) hp (by simp; omega)
      rw [List.map_cons, forF]
      show (match Pl.R.ok [some (.d (.list (R.map encB))), some (.d (.str n)), some (.d (.list (cs.map PyData.str))), some (.ol (O.map encB)), some (.d (encB p)), some (.d (.str w))] with | .ok ρ1 => (law_times_w1 ρ1 >>= _) | _ => Pl.R.bad) = _
      simp only [e, ok_bind]
      rw [ih']
      simp
  have outer : ∀ (u : List Prs) (O : List Prs), (∀ p ∈ u, p.length ≤ 1000) → O.length + u.length * cs.length ≤ 1000000 → forF (setD 4) law_times_w2 (u.map encB) [some (.d (.list (R.map encB))), some (.d (.str n)), some (.d (.list (cs.map PyData.str))), some (.ol (O.map encB)), none, none] = .ok (.nx [some (.d (.list (R.map encB))), some (.d (.str n)), some (.d (.list (cs.map PyData.str))), some (.ol ((O ++ timesP u n cs).map encB)), none, none]) := by
    intro u
    induction u with
    | nil => intro O _ _; simp [timesP, forF]
    | cons p u ih =>
      intro O hp ho
      rw [List.length_cons, Nat.succ_mul] at ho
      have hp0 := hp p List.mem_cons_self
      have e : law_times_w2 [some (.d (.list (R.map encB))), some (.d (.str n)), some (.d (.list (cs.map PyData.str))), some (.ol (O.map encB)), some (.d (encB p)), none] = .ok (.nx [some (.d (.list (R.map encB))), some (.d (.str n)), some (.d (.list (cs.map PyData.str))), some (.ol ((O ++ cs.map fun w => p ++ [(n, w)]).map encB)), none, none]) := by
        unfold law_times_w2
        refine kill_nx (ρ1 := [some (.d (.list (R.map encB))), some (.d (.str n)), some (.d (.list (cs.map PyData.str))), some (.ol ((O ++ cs.map fun w => p ++ [(n, w)]).map encB)), some (.d (encB p)), none]) ?_ rfl
        exact forS_lst (xs := cs.map PyData.str) rfl (inner p cs O hp0 (by omega))
      have ih' := ih (O ++ cs.map fun w => p ++ [(n, w)]) (fun q hq => hp q (List.mem_cons_of_mem _ hq)) (by rw [List.length_append, List.length_map]; omega)
      rw [List.map_cons, forF]
      show (match Pl.R.ok [some (.d (.list (R.map encB))), some (.d (.str n)), some (.d (.list (cs.map PyData.str))), some (.ol (O.map encB)), some (.d (encB p)), none] with | .ok ρ1 => (law_times_w2 ρ1 >>= _) | _ => Pl.R.bad) = _
      simp only [e, ok_bind]
      rw [ih', List.append_assoc]; rfl
  have o := outer R [] h (by simp; omega)
  have hb : ∀ ρ, ρ = [some (.d (.list (R.map encB))), some (.d (.str n)), some (.d (.list (cs.map PyData.str))), none, none, none] → law_times_b ρ = .ok (.rt (.ol ((timesP R n cs).map encB))) := by
    rintro _ rfl
    unfold law_times_b
    refine seq_nx (ρ1 := [some (.d (.list (R.map encB))), some (.d (.str n)), some (.d (.list (cs.map PyData.str))), some (.ol []), none, none]) rfl ?_
    exact seq_nx (forS_lst (xs := R.map encB) rfl o) rfl
  exact runB_rt (hb _ rfl) rfl
/-- the law's row of the values of a name -/
def lawL (n : Str) : List Mat → List Str → List Str
  | [], L => L
  | m :: ms, L => lawL n ms (if m.nm = n then L ++ m.vs.filter fun w => !decide (w ∈ L) else L)
theorem lawL_mem (n : Str) : ∀ (ms : List Mat) (L : List Str) (x : Str), x ∈ lawL n ms L ↔ x ∈ L ∨ x ∈ wsM ms n
  | [], L, x => by simp [lawL, wsM]
  | m :: ms, L, x => by
    rw [lawL, lawL_mem n ms, wsM_cons]
    by_cases c : m.nm = n
    · rw [if_pos c, if_pos c]
      simp only [List.mem_append, List.mem_filter]
      by_cases d : x ∈ L
      · simp [d]
      · simp [d]
    · rw [if_neg c, if_neg c]; simp
theorem lawL_len (n : Str) : ∀ (ms : List Mat) (L : List Str), (lawL n ms L).length ≤ L.length + (wsM ms n).length
  | [], L => Nat.le_add_right _ _
  | m :: ms, L => by
    rw [lawL, wsM_cons]
    have := lawL_len n ms (if m.nm = n then L ++ m.vs.filter fun w => !decide (w ∈ L) else L)
    by_cases c : m.nm = n
    · rw [if_pos c] at this ⊢
      rw [if_pos c, List.length_append]
      have h2 := List.length_filter_le (fun w => !decide (w ∈ L)) m.vs
      rw [List.length_append] at this
      omega
    · rw [if_neg c] at this ⊢
      rw [if_neg c, List.nil_append]; exact this
theorem foldU_skip : ∀ (X A : List Str) (p : Str → Bool), (∀ w ∈ X, p w = false → w ∈ A) → (X.filter p).foldl addU A = X.foldl addU A
  | [], A, p, _ => rfl
  | x :: X, A, p, h => by
    have hm : ∀ w, w ∈ A → w ∈ addU A x := fun w hw => (mem_addU A x w).mpr (.inl hw)
    cases c : p x with
    | true =>
      rw [List.filter_cons_of_pos c, List.foldl_cons, List.foldl_cons]
      exact foldU_skip X (addU A x) p fun w hw q => hm w (h w (List.mem_cons_of_mem _ hw) q)
    | false =>
      rw [List.filter_cons_of_neg (by simp [c]), List.foldl_cons]
      have hx : x ∈ A := h x List.mem_cons_self c
      rw [show addU A x = A from if_pos hx]
      exact foldU_skip X A p fun w hw q => h w (List.mem_cons_of_mem _ hw) q
theorem lawL_base (n : Str) : ∀ (ms : List Mat) (L : List Str), baseW (lawL n ms L) = (wsM ms n).foldl addU (baseW L)
  | [], L => rfl
  | m :: ms, L => by
    rw [lawL, lawL_base n ms, wsM_cons]
    by_cases c : m.nm = n
    · rw [if_pos c, if_pos c, List.foldl_append]
      congr 1
      unfold baseW
      rw [List.foldl_append]
      refine foldU_skip m.vs _ _ fun w _ q => ?_
      have hw : w ∈ L := by simpa using q
      exact (mem_foldU L [("" : Str)] w).mpr (.inr hw)
    · rw [if_neg c, if_neg c, List.nil_append]
/-- the choices by the law's row are the same -/
theorem choice_law (ms : List Mat) (n : Str) : choiceW (lawL n ms []) = choiceW (wsM ms n) := by
  have hm : ∀ w, w ∈ lawL n ms [] ↔ w ∈ wsM ms n := fun w => by rw [lawL_mem]; simp
  have hb : baseW (lawL n ms []) = baseW (wsM ms n) := lawL_base n ms []
  unfold choiceW
  rw [hb, fx_stable _ _ hm ((lawL n ms []).length + 1) ((wsM ms n).length + 1) 1 (by omega) (by have := lng_len (lawL n ms []) 1; omega) (by have := lng_len (wsM ms n) 1; omega)]
  by_cases c : ("" : Str) ∈ wsM ms n
  · rw [if_pos ((hm _).mpr c), if_pos c]
  · rw [if_neg (fun z => c ((hm _).mp z)), if_neg c]
/-- what comes behind the empty text -/
def cmpR : List Str → List Str → List Str
  | _, [] => []
  | pre, w :: r => if w = ("" : Str) ∨ w ∈ pre then cmpR (pre ++ [w]) r else w :: cmpR (pre ++ [w]) r
theorem cmpR_base : ∀ (r pre : List Str), baseW pre ++ cmpR pre r = baseW (pre ++ r)
  | [], pre => by simp [cmpR]
  | w :: r, pre => by
    have hw : w ∈ baseW pre ↔ w = ("" : Str) ∨ w ∈ pre := by
      unfold baseW
      rw [mem_foldU]; simp
    have e : baseW (pre ++ [w]) = addU (baseW pre) w := by unfold baseW; rw [List.foldl_append]; rfl
    have ih := cmpR_base r (pre ++ [w])
    rw [e, List.append_assoc] at ih
    unfold cmpR
    by_cases c : w = ("" : Str) ∨ w ∈ pre
    · rw [if_pos c]
      rw [show addU (baseW pre) w = baseW pre from if_pos (hw.mpr c)] at ih
      exact ih
    · rw [if_neg c]
      rw [show addU (baseW pre) w = baseW pre ++ [w] from if_neg (fun z => c (hw.mp z)), List.append_assoc] at ih
      exact ih
theorem ls_names (M : D) : ∀ (ms : List Mat) (N : List Str), N.length + ms.length ≤ 100000 → forF (setD 2) law_samples_w1 (ms.map encMt) [some (.d M), some (.ol (N.map PyData.str)), none, none, none, none, none, none, none, none, none, none, none] = .ok (.nx [some (.d M), some (.ol (((ms.map (·.nm)).foldl addU N).map PyData.str)), none, none, none, none, none, none, none, none, none, none, none])
  | [], N, _ => rfl
  | m :: ms, N, h => by
    have hz := line16
    simp at h
    have i0 : ixS (.d (encMt m)) (.d (.int 0)) = .ok (.d (.str m.nm)) := rfl
    have mm := inS_strsO true m.nm N
    have hs : N.length < sizeLine := by omega
    have l1 : (addU N m.nm).length ≤ N.length + 1 := by unfold addU; split <;> simp
    have e : law_samples_w1 [some (.d M), some (.ol (N.map PyData.str)), some (.d (encMt m)), none, none, none, none, none, none, none, none, none, none] = .ok (.nx [some (.d M), some (.ol ((addU N m.nm).map PyData.str)), none, none, none, none, none, none, none, none, none, none, none]) := by
      unfold law_samples_w1 addU
      generalize encMt m = Y at *
      by_cases c : m.nm ∈ N
      · rw [decide_eq_true c] at mm
        rw [if_pos c]
        simp only [if_true] at mm
        simp [i0, mm]
      · rw [decide_eq_false c] at mm
        rw [if_neg c]
        simp only [if_true] at mm
        simp [i0, mm, hs]
    rw [List.map_cons, forF]
    show (match Pl.R.ok [some (.d M), some (.ol (N.map PyData.str)), some (.d (encMt m)), none, none, none, none, none, none, none, none, none, none] with | .ok ρ1 => (law_samples_w1 ρ1 >>= _) | _ => Pl.R.bad) = _
    simp only [e, ok_bind]
    exact ls_names M ms (addU N m.nm) (by omega)
abbrev eLS (M N : D) (a2 : Option SV) (RW : SV) (n : Str) (a5 a6 a7 a8 a10 a11 : Option SV) : En := [some (.d M), some (.d N), a2, some RW, some (.d (.str n)), a5, a6, a7, a8, none, a10, a11, none]
theorem ls_named (M N : D) (RW : SV) (n : Str) : ∀ (ms : List Mat) (L : List Str), L.length + (wsM ms n).length ≤ 100000 → forF (setD 2) law_samples_w2 (ms.map encMt) (eLS M N none RW n (some (.ol (L.map PyData.str))) none none none none none) = .ok (.nx (eLS M N none RW n (some (.ol ((lawL n ms L).map PyData.str))) none none none none none))
  | [], L, _ => rfl
  | m :: ms, L, h => by
    have hz := line16
    rw [wsM_cons] at h
    have i0 : ixS (.d (encMt m)) (.d (.int 0)) = .ok (.d (.str m.nm)) := rfl
    have te : asT (bin (eqS false) (bin ixS (peek 2) (kon (.int 0))) (peek 4)) (eLS M N (some (.d (encMt m))) RW n (some (.ol (L.map PyData.str))) none none none none none) = .ok (decide (m.nm = n)) := by
      generalize encMt m = Y at *
      simp [i0]
    rw [List.map_cons, forF]
    show (match Pl.R.ok (eLS M N (some (.d (encMt m))) RW n (some (.ol (L.map PyData.str))) none none none none none) with | .ok ρ1 => (law_samples_w2 ρ1 >>= _) | _ => Pl.R.bad) = _
    by_cases c : m.nm = n
    · rw [if_pos c, List.length_append] at h
      have q := lcF_mapα PyData.str (k := setD 11) (t := asT (bin (inS true) (peek 11) (peek 5))) (e := getV 11) (ρ0 := eLS M N (some (.d (encMt m))) RW n (some (.ol (L.map PyData.str))) none none none none none) (fun w => !decide (w ∈ L)) PyData.str m.vs fun w _ => ⟨_, rfl, by
        have mm := inS_strsO true w L
        rw [asT_ap, bin_ap]
        show (inS true (.d (.str w)) (.ol (L.map PyData.str)) >>= bool1) = _
        rw [mm]; rfl, fun _ => ⟨.d (.str w), rfl, rfl⟩⟩
      have hf := List.length_filter_le (fun w => !decide (w ∈ L)) m.vs
      have e1 : bin addS (peek 5) (lcE (seqD (bin ixS (peek 2) (kon (.int 1)))) (setD 11) (asT (bin (inS true) (peek 11) (peek 5))) (getV 11) [11]) (eLS M N (some (.d (encMt m))) RW n (some (.ol (L.map PyData.str))) none none none none none) = .ok (.ol ((L ++ m.vs.filter fun w => !decide (w ∈ L)).map PyData.str)) := by
        rw [bin_ap, lcE_ap]
        show ((if (m.vs.map PyData.str).length < sizeLine then lcF _ _ _ (eLS M N (some (.d (encMt m))) RW n (some (.ol (L.map PyData.str))) none none none none none) (m.vs.map PyData.str) >>= fun ys => Pl.R.ok (SV.ol ys) else Pl.R.bad) >>= fun b => addS (.ol (L.map PyData.str)) b) = _
        rw [if_pos (by rw [List.length_map]; omega), q, ok_bind, ok_bind]
        show (if (L.map PyData.str).length + ((m.vs.filter fun w => !decide (w ∈ L)).map PyData.str).length ≤ sizeLine then _ else _) = _
        rw [if_pos (by rw [List.length_map, List.length_map]; omega), List.map_append]
      have e : law_samples_w2 (eLS M N (some (.d (encMt m))) RW n (some (.ol (L.map PyData.str))) none none none none none) = .ok (.nx (eLS M N none RW n (some (.ol ((L ++ m.vs.filter fun w => !decide (w ∈ L)).map PyData.str))) none none none none none)) := by
        unfold law_samples_w2
        refine kill_nx (ρ1 := eLS M N (some (.d (encMt m))) RW n (some (.ol ((L ++ m.vs.filter fun w => !decide (w ∈ L)).map PyData.str))) none none none none none) ?_ rfl
        rw [ifS_ap, te, ok_bind, decide_eq_true c, if_pos rfl]
        exact asg_nx e1 rfl
      simp only [e, ok_bind]
      rw [lawL, if_pos c]
      exact ls_named M N RW n ms _ (by rw [List.length_append]; omega)
    · rw [if_neg c, List.nil_append] at h
      have e : law_samples_w2 (eLS M N (some (.d (encMt m))) RW n (some (.ol (L.map PyData.str))) none none none none none) = .ok (.nx (eLS M N none RW n (some (.ol (L.map PyData.str))) none none none none none)) := by
        unfold law_samples_w2
        refine kill_nx (ρ1 := eLS M N (some (.d (encMt m))) RW n (some (.ol (L.map PyData.str))) none none none none none) ?_ rfl
        rw [ifS_ap, te, ok_bind, decide_eq_false c]; rfl
      simp only [e, ok_bind]
      rw [lawL, if_neg c]
      exact ls_named M N RW n ms L h
def prsS : Nat → List Str → List D
  | _, [] => []
  | i, s :: r => .tuple [.int (i : Nat), .str s] :: prsS (i + 1) r
theorem prsS_zip : ∀ (S : List Str) (i : Nat), (List.range' i S.length).zipWith (fun i x => PyData.tuple [.int (i : Nat), x]) (S.map PyData.str) = prsS i S
  | [], _ => rfl
  | s :: S, i => by
    rw [List.length_cons, List.range'_succ, List.map_cons, List.zipWith_cons_cons, prsS_zip S (i + 1)]; rfl
theorem pairUp_prsS (S : List Str) : pairUp (S.map PyData.str) = prsS 0 S := by
  unfold pairUp
  rw [List.length_map, List.range_eq_range', prsS_zip]
theorem prsS_len : ∀ (S : List Str) (i : Nat), (prsS i S).length = S.length
  | [], _ => rfl
  | s :: S, i => by rw [prsS, List.length_cons, prsS_len S, List.length_cons]
theorem cut_pre (pre r : List Str) : Pl.cutD ((pre ++ r).map PyData.str) none (some (pre.length : Nat)) = pre.map PyData.str := by
  rw [cutD_to, List.map_append]
  rw [List.take_append_of_le_length (by rw [List.length_map]; omega), List.take_of_length_le (by rw [List.length_map]; omega)]
theorem ls_comp (M N : D) (RW : SV) (n : Str) (L : List Str) : ∀ (r pre : List Str), L = pre ++ r → lcF (tupG 2 (gsC (setD 10) (gsC (setD 11) gsN))) (andT (asT (bin (eqS true) (peek 11) (kon (.str "")))) (asT (bin (inS true) (peek 11) (slice (peek 5) noO (someO (peek 10)))))) (getV 11) (eLS M N none RW n (some (.d (.list (L.map PyData.str)))) none none none none none) (prsS pre.length r) = .ok ((cmpR pre r).map PyData.str)
  | [], pre, _ => rfl
  | w :: r, pre, hL => by
    have ih := ls_comp M N RW n L r (pre ++ [w]) (by rw [hL]; simp)
    rw [List.length_append] at ih
    have cp := cut_pre pre (w :: r)
    rw [← hL] at cp
    have mm := inS_strsO true w pre
    have te : andT (asT (bin (eqS true) (peek 11) (kon (.str "")))) (asT (bin (inS true) (peek 11) (slice (peek 5) noO (someO (peek 10))))) (eLS M N none RW n (some (.d (.list (L.map PyData.str)))) none none none (some (.d (.int (pre.length : Nat)))) (some (.d (.str w)))) = .ok (!decide (w = ("" : Str) ∨ w ∈ pre)) := by
      by_cases c : w = ""
      · subst c
        simp
      · simp only [if_true] at mm
        rw [andT_ap]
        have e1 : asT (bin (eqS true) (peek 11) (kon (.str ""))) (eLS M N none RW n (some (.d (.list (L.map PyData.str)))) none none none (some (.d (.int (pre.length : Nat)))) (some (.d (.str w)))) = .ok true := by simp [c]
        rw [e1, ok_bind, if_pos rfl, asT_ap, bin_ap, slice_ap]
        show ((slS (.d (.list (L.map PyData.str))) none (some (pre.length : Nat)) >>= fun b => inS true (.d (.str w)) b) >>= bool1) = _
        rw [slS_l, cp, ok_bind, mm, ok_bind]
        show Pl.R.ok (!decide (w ∈ pre)) = _
        simp [c]
    rw [prsS, lcF]
    show (match Pl.R.ok (eLS M N none RW n (some (.d (.list (L.map PyData.str)))) none none none (some (.d (.int (pre.length : Nat)))) (some (.d (.str w)))) with
      | .ok ρ1 => (andT _ _ ρ1 >>= _)
      | _ => Pl.R.bad) = _
    simp only [te, ok_bind]
    unfold cmpR
    by_cases c : w = ("" : Str) ∨ w ∈ pre
    · rw [if_pos c, decide_eq_true c]
      simp only [Bool.not_true, Bool.false_eq_true, if_false]
      exact ih
    · rw [if_neg c, decide_eq_false c]
      simp only [Bool.not_false, if_true]
      show (lcF _ _ _ (eLS M N none RW n (some (.d (.list (L.map PyData.str)))) none none none none none) (prsS (pre.length + 1) r) >>= fun ys => Pl.R.ok (PyData.str w :: ys)) = _
      rw [show pre.length + 1 = pre.length + [w].length from rfl, ih]; rfl
theorem fx_not {W : List Str} {m : Nat} (h : xk m ∉ W) : ∀ k, fx W k m = m
  | 0 => rfl
  | k + 1 => by unfold fx; rw [if_neg h]
theorem ls_many (M N : D) (RW : SV) (n : Str) (L f : List Str) : ∀ (xs : List D) (m : Nat), 1 ≤ m → m + xs.length ≤ 1000 → forF (setD 8) law_samples_w3 xs (eLS M N none RW n (some (.d (.list (L.map PyData.str)))) (some (.ol (f.map PyData.str))) (some (.d (.int (m : Nat)))) none none none) = .ok (.nx (eLS M N none RW n (some (.d (.list (L.map PyData.str)))) (some (.ol (f.map PyData.str))) (some (.d (.int (fx L xs.length m : Nat)))) none none none))
  | [], m, _, _ => rfl
  | x :: xs, m, hm, h => by
    simp at h
    have mu : mulA (.d (.str "x")) (.d (.int (m : Nat))) = .ok (.d (.str (xk m))) := by
      show (if 1 ≤ (m : Int) ∧ (m : Int) ≤ 1000 ∧ ("x" : Str).length ≤ 1000 then Pl.R.ok (SV.d (.str (Txt.mul "x" (m : Int)))) else Pl.R.bad) = _
      rw [if_pos ⟨by omega, by omega, by decide +kernel⟩]; rfl
    have mm := inS_strs0 false (xk m) L
    have te : asT (bin (inS false) (bin mulA (kon (.str "x")) (peek 7)) (peek 5)) (eLS M N none RW n (some (.d (.list (L.map PyData.str)))) (some (.ol (f.map PyData.str))) (some (.d (.int (m : Nat)))) (some (.d x)) none none) = .ok (decide (xk m ∈ L)) := by
      rw [asT_ap, bin_ap, bin_ap]
      show ((mulA (.d (.str "x")) (.d (.int (m : Nat))) >>= fun a => inS false a (.d (.list (L.map PyData.str)))) >>= bool1) = _
      rw [mu, ok_bind, mm]; rfl
    rw [forF]
    show (match Pl.R.ok (eLS M N none RW n (some (.d (.list (L.map PyData.str)))) (some (.ol (f.map PyData.str))) (some (.d (.int (m : Nat)))) (some (.d x)) none none) with | .ok ρ1 => (law_samples_w3 ρ1 >>= _) | _ => Pl.R.bad) = _
    rw [List.length_cons]
    by_cases c : xk m ∈ L
    · have e : law_samples_w3 (eLS M N none RW n (some (.d (.list (L.map PyData.str)))) (some (.ol (f.map PyData.str))) (some (.d (.int (m : Nat)))) (some (.d x)) none none) = .ok (.nx (eLS M N none RW n (some (.d (.list (L.map PyData.str)))) (some (.ol (f.map PyData.str))) (some (.d (.int ((m + 1 : Nat) : Int)))) none none none)) := by
        unfold law_samples_w3
        refine kill_nx (ρ1 := eLS M N none RW n (some (.d (.list (L.map PyData.str)))) (some (.ol (f.map PyData.str))) (some (.d (.int ((m + 1 : Nat) : Int)))) (some (.d x)) none none) ?_ rfl
        rw [ifS_ap, te, ok_bind, decide_eq_true c, if_pos rfl]
        exact asg_nx (r := .d (.int ((m + 1 : Nat) : Int))) rfl rfl
      simp only [e, ok_bind]
      rw [show fx L (xs.length + 1) m = fx L xs.length (m + 1) from by rw [fx, if_pos c]]
      exact ls_many M N RW n L f xs (m + 1) (by omega) (by omega)
    · have e : law_samples_w3 (eLS M N none RW n (some (.d (.list (L.map PyData.str)))) (some (.ol (f.map PyData.str))) (some (.d (.int (m : Nat)))) (some (.d x)) none none) = .ok (.nx (eLS M N none RW n (some (.d (.list (L.map PyData.str)))) (some (.ol (f.map PyData.str))) (some (.d (.int (m : Nat)))) none none none)) := by
        unfold law_samples_w3
        refine kill_nx (ρ1 := eLS M N none RW n (some (.d (.list (L.map PyData.str)))) (some (.ol (f.map PyData.str))) (some (.d (.int (m : Nat)))) (some (.d x)) none none) ?_ rfl
        rw [ifS_ap, te, ok_bind, decide_eq_false c]; rfl
      simp only [e, ok_bind]
      have ih := ls_many M N RW n L f xs m hm (by omega)
      rw [fx_not c] at ih ⊢
      exact ih
abbrev eL0 (M N : D) (R : List Prs) (a4 : Option SV) : En := [some (.d M), some (.d N), none, some (.ol (R.map encB)), a4, none, none, none, none, none, none, none, none]
theorem ls_w4 (N : D) (ms : List Mat) (n : Str) (R : List Prs) (hR : R.length ≤ 300) (hp : ∀ p ∈ R, p.length ≤ 1000) (hw : (wsM ms n).length ≤ 900) :
    law_samples_w4 (eL0 (.list (ms.map encMt)) N R (some (.d (.str n)))) = if 300 < R.length * (choiceW (wsM ms n)).length then .ok (.rt (.d .none)) else .ok (.nx (eL0 (.list (ms.map encMt)) N (timesP R n (choiceW (wsM ms n))) none)) := by
  have hz := line16
  have hLl := lawL_len n ms []
  simp at hLl
  have cl := choice_law ms n
  have hnm := ls_named (.list (ms.map encMt)) N (.ol (R.map encB)) n ms [] (by simp; omega)
  generalize hL : lawL n ms [] = L at *
  have hcmp := cmpR_base L []
  rw [List.nil_append] at hcmp
  have lc := ls_comp (.list (ms.map encMt)) N (.ol (R.map encB)) n L L [] rfl
  have hbl : (baseW L).length ≤ 1 + L.length := foldU_len L [("" : Str)]
  have e6 : bin addS (dispL (conA (kon (.str "")) nilA)) (lcE (enumD (getV 5)) (tupG 2 (gsC (setD 10) (gsC (setD 11) gsN))) (andT (asT (bin (eqS true) (peek 11) (kon (.str "")))) (asT (bin (inS true) (peek 11) (slice (peek 5) noO (someO (peek 10)))))) (getV 11) [10, 11]) (eLS (.list (ms.map encMt)) N none (.ol (R.map encB)) n (some (.d (.list (L.map PyData.str)))) none none none none none) = .ok (.ol ((baseW L).map PyData.str)) := by
    rw [bin_ap, lcE_ap]
    show ((Pl.R.ok (pairUp (L.map PyData.str)) >>= fun xs => if xs.length < sizeLine then lcF _ _ _ (eLS (.list (ms.map encMt)) N none (.ol (R.map encB)) n (some (.d (.list (L.map PyData.str)))) none none none none none) xs >>= fun ys => Pl.R.ok (SV.ol ys) else Pl.R.bad) >>= fun b => addS (.ol (([("" : Str)]).map PyData.str)) b) = _
    rw [pairUp_prsS, ok_bind, if_pos (by rw [prsS_len]; omega)]
    rw [List.length_nil] at lc
    rw [lc, ok_bind, ok_bind, ← hcmp]
    show (if _ then _ else _) = _
    have h1 : (baseW ([] : List Str)) = [("" : Str)] := rfl
    have h2 := congrArg List.length hcmp
    rw [List.length_append] at h2
    rw [if_pos (by rw [List.length_map, List.length_map]; rw [h1] at h2; omega), ← List.map_append, h1]
  have te : ∀ a6, asT (bin (inS false) (kon (.str "")) (peek 5)) (eLS (.list (ms.map encMt)) N none (.ol (R.map encB)) n (some (.d (.list (L.map PyData.str)))) a6 none none none none) = .ok (decide (("" : Str) ∈ L)) := fun a6 => by
    have mm := inS_strs0 false ("" : Str) L
    rw [asT_ap, bin_ap]
    show (inS false (.d (.str "")) (.d (.list (L.map PyData.str))) >>= bool1) = _
    rw [mm]; rfl
  have st : ∃ a7 : Option SV, ifS (asT (bin (inS false) (kon (.str "")) (peek 5))) (seqS (asgS 7 (kon (.int 1)))
    (seqS (forS (rngD1 (conB (bin addS (callB lenS (conB (peek 5) nilB)) (kon (.int 1))) nilB)) (setD 8) law_samples_w3)
    (appS 6 (bin mulA (kon (.str "x")) (peek 7))))) skip (eLS (.list (ms.map encMt)) N none (.ol (R.map encB)) n (some (.d (.list (L.map PyData.str)))) (some (.ol ((baseW L).map PyData.str))) none none none none) = .ok (.nx (eLS (.list (ms.map encMt)) N none (.ol (R.map encB)) n (some (.d (.list (L.map PyData.str)))) (some (.ol ((choiceW L).map PyData.str))) a7 none none none)) := by
    by_cases c : ("" : Str) ∈ L
    · have rl : (rng 0 ((L.length + 1 : Nat) : Int)).length = L.length + 1 := by
        unfold rng
        rw [List.length_map, List.length_range]; omega
      have lm := ls_many (.list (ms.map encMt)) N (.ol (R.map encB)) n L (baseW L) (rng 0 ((L.length + 1 : Nat) : Int)) 1 (by omega) (by rw [rl]; omega)
      rw [rl] at lm
      have fl := fx_le L (L.length + 1) 1
      have fo := fx_out L (L.length + 1) 1 (by omega) (by have := lng_len L 1; omega)
      have mu : mulA (.d (.str "x")) (.d (.int (fx L (L.length + 1) 1 : Nat))) = .ok (.d (.str (xk (fx L (L.length + 1) 1)))) := by
        show (if 1 ≤ ((fx L (L.length + 1) 1 : Nat) : Int) ∧ ((fx L (L.length + 1) 1 : Nat) : Int) ≤ 1000 ∧ ("x" : Str).length ≤ 1000 then Pl.R.ok (SV.d (.str (Txt.mul "x" ((fx L (L.length + 1) 1 : Nat) : Int)))) else Pl.R.bad) = _
        rw [if_pos ⟨by omega, by omega, by decide +kernel⟩]; rfl
      refine ⟨some (.d (.int (fx L (L.length + 1) 1 : Nat))), ?_⟩
      rw [ifS_ap, te, ok_bind, decide_eq_true c, if_pos rfl]
      refine seq_nx (ρ1 := eLS (.list (ms.map encMt)) N none (.ol (R.map encB)) n (some (.d (.list (L.map PyData.str)))) (some (.ol ((baseW L).map PyData.str))) (some (.d (.int ((1 : Nat) : Int)))) none none none) rfl ?_
      refine seq_nx (forS_rng1 (j := ((L.length + 1 : Nat) : Int)) ?_ (okR_of (by omega) (by omega)) lm) ?_
      · rw [bin_ap, callB_ap, conB_ap]
        show ((Pl.R.ok (SV.d (.int ((L.map PyData.str).length : Nat)))) >>= fun a => addS a (.d (.int 1))) = _
        rw [List.length_map]; rfl
      · unfold choiceW
        rw [if_pos c]
        generalize fx L (L.length + 1) 1 = q at *
        have hs : (baseW L).length < sizeLine := by omega
        unfold appS
        show (bin mulA (kon (.str "x")) (peek 7) (eLS (.list (ms.map encMt)) N none (.ol (R.map encB)) n (some (.d (.list (L.map PyData.str)))) (some (.ol ((baseW L).map PyData.str))) (some (.d (.int (q : Nat)))) none none none) >>= fun r => datS r >>= fun d => if ((baseW L).map PyData.str).length < sizeLine then _ else _) = _
        rw [bin_ap]
        show ((mulA (.d (.str "x")) (.d (.int (q : Nat)))) >>= _) = _
        rw [mu, ok_bind]
        show (if ((baseW L).map PyData.str).length < sizeLine then _ else _) = _
        rw [if_pos (by rw [List.length_map]; omega), List.map_append]; rfl
    · refine ⟨none, ?_⟩
      unfold choiceW
      rw [if_neg c, ifS_ap, te, ok_bind, decide_eq_false c]; rfl
  obtain ⟨a7, st⟩ := st
  rw [cl] at st
  have tm := law_times_ok R n (choiceW (wsM ms n)) hp
  have cwl := choiceW_len (wsM ms n)
  generalize choiceW (wsM ms n) = cs at *
  have pre : ∀ z : Pl.R Fl, (seqS (ifS (asT (bin gtS (bin mulA (callB lenS (conB (peek 3) nilB)) (callB lenS (conB (peek 6) nilB))) (kon (.int 300)))) (retS (kon .none)) skip)
    (frzS [3, 6] (asgS 3 (callF 3 law_times_f (conA (getV 3) (conA (getV 4) (conA (getV 6) nilA))))))) (eLS (.list (ms.map encMt)) N none (.ol (R.map encB)) n (some (.d (.list (L.map PyData.str)))) (some (.ol (cs.map PyData.str))) a7 none none none) = z →
      law_samples_w4 (eL0 (.list (ms.map encMt)) N R (some (.d (.str n)))) = (z >>= fun fl => match fl with | .nx ρ' => .ok (.nx (killE [2, 4, 5, 6, 7, 8] ρ')) | .ct ρ' => .ok (.ct (killE [2, 4, 5, 6, 7, 8] ρ')) | .bk ρ' => .ok (.bk (killE [2, 4, 5, 6, 7, 8] ρ')) | z => .ok z) := by
    rintro z rfl
    unfold law_samples_w4
    rw [kill_ap]
    congr 1
    rw [seqS_ap]
    show seqS _ _ (eLS (.list (ms.map encMt)) N none (.ol (R.map encB)) n (some (.ol [])) none none none none none) = _
    rw [seqS_ap, forS_ap, seqD_ap]
    show ((forF (setD 2) law_samples_w2 (ms.map encMt) (eLS (.list (ms.map encMt)) N none (.ol (R.map encB)) n (some (.ol (([] : List Str).map PyData.str))) none none none none none) : Pl.R Fl) >>= _) = _
    rw [hnm, ok_bind]
    show seqS _ _ (eLS (.list (ms.map encMt)) N none (.ol (R.map encB)) n (some (.ol (L.map PyData.str))) none none none none none) = _
    rw [seqS_ap, frzS_ap]
    show (asgS 6 _ (eLS (.list (ms.map encMt)) N none (.ol (R.map encB)) n (some (.d (.list (L.map PyData.str)))) none none none none none) >>= _) = _
    rw [asg_nx e6 rfl, ok_bind]
    show seqS _ _ (eLS (.list (ms.map encMt)) N none (.ol (R.map encB)) n (some (.d (.list (L.map PyData.str)))) (some (.ol ((baseW L).map PyData.str))) none none none none) = _
    rw [seqS_ap, st, ok_bind]
  have mu : mulA (.d (.int (R.length : Nat))) (.d (.int (cs.length : Nat))) = .ok (.d (.int ((R.length * cs.length : Nat) : Int))) := by
    rw [mulA_i, okM_of (j := (R.length : Int)) (by omega) (by omega)]
    simp
  have tg : asT (bin gtS (bin mulA (callB lenS (conB (peek 3) nilB)) (callB lenS (conB (peek 6) nilB))) (kon (.int 300))) (eLS (.list (ms.map encMt)) N none (.ol (R.map encB)) n (some (.d (.list (L.map PyData.str)))) (some (.ol (cs.map PyData.str))) a7 none none none) = .ok (decide (300 < R.length * cs.length)) := by
    rw [asT_ap, bin_ap, bin_ap]
    show (((mulA (.d (.int ((R.map encB).length : Nat))) (.d (.int ((cs.map PyData.str).length : Nat)))) >>= fun a => gtS a (.d (.int 300))) >>= bool1) = _
    rw [List.length_map, List.length_map, mu, ok_bind]
    show Pl.R.ok (decide ((300 : Int) < ((R.length * cs.length : Nat) : Int))) = _
    congr 1
    exact decide_eq_decide.mpr (by omega)
  by_cases c : 300 < R.length * cs.length
  · rw [if_pos c]
    rw [pre (.ok (.rt (.d .none))) (by rw [seqS_ap, ifS_ap, tg, ok_bind, decide_eq_true c]; rfl)]
    rfl
  · rw [if_neg c]
    rw [pre (.ok (.nx [some (.d (.list (ms.map encMt))), some (.d N), none, some (.ol ((timesP R n cs).map encB)), some (.d (.str n)), some (.d (.list (L.map PyData.str))), some (.d (.list (cs.map PyData.str))), a7, none, none, none, none, none])) (by
      refine seq_nx (ρ1 := eLS (.list (ms.map encMt)) N none (.ol (R.map encB)) n (some (.d (.list (L.map PyData.str)))) (some (.ol (cs.map PyData.str))) a7 none none none) (by rw [ifS_ap, tg, ok_bind, decide_eq_false c]; rfl) ?_
      rw [frzS_ap]
      refine asg_nx (ρ := [some (.d (.list (ms.map encMt))), some (.d N), none, some (.d (.list (R.map encB))), some (.d (.str n)), some (.d (.list (L.map PyData.str))), some (.d (.list (cs.map PyData.str))), a7, none, none, none, none, none]) (r := .ol ((timesP R n cs).map encB)) ?_ rfl
      have tm' := tm (by omega)
      rw [callF_ap]
      show ((Pl.R.ok [PyData.list (R.map encB), .str n, .list (cs.map PyData.str)] : Pl.R (List D)) >>= _) = _
      rw [ok_bind]
      exact tm')]
    rfl
theorem rowsP_fact (ms : List Mat) : ∀ (ns : List Str) (R R' : List Prs), R.length ≤ 300 → (∀ p ∈ R, p.length + ns.length ≤ 1000) → rowsP ms ns R = some R' → R'.length ≤ 300 ∧ ∀ p ∈ R', p.length ≤ 1000
  | [], R, R', hR, hp, e => by
    unfold rowsP at e
    cases e
    exact ⟨hR, fun p h => by have := hp p h; omega⟩
  | n :: ns, R, R', hR, hp, e => by
    unfold rowsP at e
    split at e
    · cases e
    · rename_i c
      have tl := timesP_len R n (choiceW (wsM ms n))
      exact rowsP_fact ms ns _ R' (by rw [tl]; omega) (fun q hq => by
        obtain ⟨p, hp', w, _, rfl⟩ := timesP_mem hq
        have := hp p hp'
        simp at this ⊢; omega) e
theorem ls_loop (N : D) (ms : List Mat) (hw : ∀ n, (wsM ms n).length ≤ 900) : ∀ (ns : List Str) (R : List Prs), R.length ≤ 300 → (∀ p ∈ R, p.length + ns.length ≤ 1000) → forF (setD 4) law_samples_w4 (ns.map PyData.str) (eL0 (.list (ms.map encMt)) N R none) = (match rowsP ms ns R with | none => .ok (.rt (.d .none)) | some R' => .ok (.nx (eL0 (.list (ms.map encMt)) N R' none)))
  | [], R, _, _ => rfl
  | n :: ns, R, hR, hp => by
    have e := ls_w4 N ms n R hR (fun p h => by have := hp p h; omega) (hw n)
    have tl := timesP_len R n (choiceW (wsM ms n))
    rw [List.map_cons, forF]
    show (match Pl.R.ok (eL0 (.list (ms.map encMt)) N R (some (.d (.str n)))) with | .ok ρ1 => (law_samples_w4 ρ1 >>= _) | _ => Pl.R.bad) = _
    simp only [e]
    unfold rowsP
    by_cases c : 300 < R.length * (choiceW (wsM ms n)).length
    · rw [if_pos c, if_pos c, ok_bind]
    · rw [if_neg c, if_neg c, ok_bind]
      exact ls_loop N ms hw ns _ (by rw [tl]; omega) (fun q hq => by
        obtain ⟨p, hp', w, _, rfl⟩ := timesP_mem hq
        have := hp p hp'
        simp at this ⊢; omega)
theorem law_samples_ok (ms : List Mat) (h1 : ms.length ≤ 100) (hw : ∀ n, (wsM ms n).length ≤ 900) : law_samples_f [.list (ms.map encMt)] = .ok (match samplesP ms with | none => .d .none | some L => .ol (L.map encB)) := by
  have hz := line16
  have nl := ls_names (.list (ms.map encMt)) ms [] (by simp; omega)
  have nlen : (namesM ms).length ≤ 100 := by have := foldU_len (ms.map (·.nm)) []; simp at this; unfold namesM; omega
  have lp := ls_loop (.list ((namesM ms).map PyData.str)) ms hw (namesM ms) [[]] (by simp) (fun p hp => by simp at hp; subst hp; simp; omega)
  have fact := rowsP_fact ms (namesM ms) [[]]
  have nl' : forF (setD 2) law_samples_w1 (ms.map encMt) [some (.d (.list (ms.map encMt))), some (.ol []), none, none, none, none, none, none, none, none, none, none, none] = .ok (.nx [some (.d (.list (ms.map encMt))), some (.ol ((namesM ms).map PyData.str)), none, none, none, none, none, none, none, none, none, none, none]) := nl
  unfold samplesP
  generalize namesM ms = N at *
  have f2 : forS (seqD (getV 1)) (setD 4) law_samples_w4 (eL0 (.list (ms.map encMt)) (.list (N.map PyData.str)) [[]] none) = (match rowsP ms N [[]] with | none => .ok (.rt (.d .none)) | some R' => .ok (.nx (eL0 (.list (ms.map encMt)) (.list (N.map PyData.str)) R' none))) := (by rw [forS_ap, seqD_ap]; exact lp)
  have st1 : ∀ g : En → Pl.R Fl, ∀ z : Pl.R Fl, seqS (frzS [1] (forS (seqD (getV 1)) (setD 4) law_samples_w4)) g [some (.d (.list (ms.map encMt))), some (.ol (N.map PyData.str)), none, some (.ol [encB []]), none, none, none, none, none, none, none, none, none] = z → seqS (asgS 1 (dispL nilA)) (seqS (forS (seqD (getV 0)) (setD 2) law_samples_w1) (seqS (asgS 3 (dispL (conA (dispT nilA) nilA))) (seqS (frzS [1] (forS (seqD (getV 1)) (setD 4) law_samples_w4)) g))) [some (.d (.list (ms.map encMt))), none, none, none, none, none, none, none, none, none, none, none, none] = z := by
    rintro g z rfl
    rw [seqS_ap]
    show seqS _ _ [some (.d (.list (ms.map encMt))), some (.ol []), none, none, none, none, none, none, none, none, none, none, none] = _
    rw [seqS_ap, forS_ap, seqD_ap]
    show ((forF (setD 2) law_samples_w1 (ms.map encMt) [some (.d (.list (ms.map encMt))), some (.ol []), none, none, none, none, none, none, none, none, none, none, none] : Pl.R Fl) >>= _) = _
    rw [nl', ok_bind]; rfl
  have hb : ∀ ρ, ρ = [some (.d (.list (ms.map encMt))), none, none, none, none, none, none, none, none, none, none, none, none] → law_samples_b ρ = .ok (.rt (match (rowsP ms N [[]]).map fun R => R.map finP with | none => .d .none | some L => .ol (L.map encB))) := by
    rintro _ rfl
    unfold law_samples_b
    refine st1 _ _ ?_
    rw [seqS_ap, frzS_ap]
    show (forS _ _ _ (eL0 (.list (ms.map encMt)) (.list (N.map PyData.str)) [[]] none) >>= _) = _
    rw [f2]
    cases q : rowsP ms N [[]] with
    | none => rfl
    | some R =>
      obtain ⟨hR, hp⟩ := fact R (by simp) (fun p hp => by simp at hp; subst hp; simp; omega) q
      rw [ok_bind]
      show frzS [3] _ (eL0 (.list (ms.map encMt)) (.list (N.map PyData.str)) R none) = _
      rw [frzS_ap]
      show retS _ [some (.d (.list (ms.map encMt))), some (.d (.list (N.map PyData.str))), none, some (.d (.list (R.map encB))), none, none, none, none, none, none, none, none, none] = _
      have q := lcF_mapα encB (k := setD 9) (t := yesT) (e := callB tupS (conB (callB sortedS (conB (lcE (seqD (getV 9)) (setD 12) (asT (bin (eqS true) (bin ixS (peek 12) (kon (.int 1))) (kon (.str "")))) (getV 12) [12]) nilB)) nilB)) (ρ0 := [some (.d (.list (ms.map encMt))), some (.d (.list (N.map PyData.str))), none, some (.d (.list (R.map encB))), none, none, none, none, none, none, none, none, none]) (fun _ => true) (fun p => encB (finP p)) R fun p hpp => ⟨_, rfl, rfl, fun _ => ⟨.d (encB (finP p)), by
          have kp := keep_ok 9 12 p [some (.d (.list (ms.map encMt))), some (.d (.list (N.map PyData.str))), none, some (.d (.list (R.map encB))), none, none, none, none, none, some (.d (encB p)), none, none, none] rfl rfl (by simp) (hp p hpp)
          have fp := finP_ok p [] 0 0 (fun _ => .inr trivial) (hp p hpp)
          show callB tupS (conB (callB sortedS (conB (lcE _ _ _ _ _) nilB)) nilB) [some (.d (.list (ms.map encMt))), some (.d (.list (N.map PyData.str))), none, some (.d (.list (R.map encB))), none, none, none, none, none, some (.d (encB p)), none, none, none] = _
          rw [callB_ap, conB_ap, callB_ap, conB_ap, kp, ok_bind]
          simp only [nilB_ap, ok_bind, fp]
          rfl, rfl⟩⟩
      rw [List.filter_eq_self.mpr fun _ _ => rfl] at q
      rw [retS_ap, lcE_ap]
      show ((if (R.map encB).length < sizeLine then lcF _ _ _ [some (.d (.list (ms.map encMt))), some (.d (.list (N.map PyData.str))), none, some (.d (.list (R.map encB))), none, none, none, none, none, none, none, none, none] (R.map encB) >>= fun ys => Pl.R.ok (SV.ol ys) else Pl.R.bad) >>= fun r => Pl.R.ok (Fl.rt r)) = _
      rw [if_pos (by rw [List.length_map]; omega), q]
      show Pl.R.ok (Fl.rt (SV.ol (R.map fun p => encB (finP p)))) = Pl.R.ok (Fl.rt (SV.ol ((R.map finP).map encB)))
      rw [List.map_map]; rfl
  exact runB_rt (hb _ rfl) (by cases rowsP ms N [[]] <;> rfl)
/-! ### some sample stands for each alert -/
theorem mem_allR (ms : List Mat) (v : Str → Str) : ∀ (ns : List Str) (R : List Prs) (p : Prs), p ∈ R → (∀ n ∈ ns, v n ∈ choiceW (wsM ms n)) → p ++ ns.map (fun n => (n, v n)) ∈ allR ms ns R
  | [], R, p, hp, _ => by simpa [allR] using hp
  | n :: ns, R, p, hp, h => by
    have ih := mem_allR ms v ns (timesP R n (choiceW (wsM ms n))) (p ++ [(n, v n)]) (by
      unfold timesP
      exact List.mem_flatMap.mpr ⟨p, hp, List.mem_map.mpr ⟨v n, h n List.mem_cons_self, rfl⟩⟩) fun x hx => h x (List.mem_cons_of_mem _ hx)
    rw [List.append_assoc] at ih
    exact ih
theorem rowsP_all (ms : List Mat) : ∀ (ns : List Str) (R R' : List Prs), rowsP ms ns R = some R' → R' = allR ms ns R
  | [], R, R', e => by unfold rowsP at e; cases e; rfl
  | n :: ns, R, R', e => by
    unfold rowsP at e
    split at e
    · cases e
    · exact rowsP_all ms ns _ R' e
/-- the choice that stands for a value -/
def stand (ms : List Mat) (l : Lab) (n : Str) : Str := if valL l n ∈ choiceW (wsM ms n) then valL l n else if ("" : Str) ∈ wsM ms n then xk (fx (wsM ms n) ((wsM ms n).length + 1) 1) else ""
theorem mem_base (W : List Str) (x : Str) : x ∈ baseW W ↔ x = "" ∨ x ∈ W := by
  unfold baseW
  rw [mem_foldU]; simp
theorem base_choice (W : List Str) (x : Str) (h : x ∈ baseW W) : x ∈ choiceW W := by
  unfold choiceW
  split
  · exact List.mem_append_left _ h
  · exact h
theorem stand_mem (ms : List Mat) (l : Lab) (n : Str) : stand ms l n ∈ choiceW (wsM ms n) := by
  unfold stand
  split
  · assumption
  · split
    · rename_i h
      unfold choiceW
      rw [if_pos h]
      exact List.mem_append_right _ (by simp)
    · exact base_choice _ _ ((mem_base _ _).mpr (.inl rfl))
theorem stand_iff (ms : List Mat) (l : Lab) (m : Mat) (hm : m ∈ ms) : stand ms l m.nm ∈ m.vs ↔ valL l m.nm ∈ m.vs := by
  have sub : ∀ x ∈ m.vs, x ∈ wsM ms m.nm := fun x hx => by
    unfold wsM
    exact List.mem_flatMap.mpr ⟨m, List.mem_filter.mpr ⟨hm, by simp⟩, hx⟩
  unfold stand
  by_cases c : valL l m.nm ∈ choiceW (wsM ms m.nm)
  · rw [if_pos c]
  · rw [if_neg c]
    have nv : valL l m.nm ∉ m.vs := fun z => c (base_choice _ _ ((mem_base _ _).mpr (.inr (sub _ z))))
    by_cases d : ("" : Str) ∈ wsM ms m.nm
    · rw [if_pos d]
      have fo := (fx_out (wsM ms m.nm) ((wsM ms m.nm).length + 1) 1 (by omega) (by have := lng_len (wsM ms m.nm) 1; omega)).1
      exact ⟨fun z => absurd (sub _ z) fo, fun z => absurd z nv⟩
    · rw [if_neg d]
      exact ⟨fun z => absurd (sub _ z) d, fun z => absurd z nv⟩
theorem finP_val (ns : List Str) (nd : ns.Nodup) (v : Str → Str) (n : Str) (h : n ∈ ns) : valL (finP (ns.map fun n => (n, v n))) n = v n := by
  have nd1 : ((ns.map fun n => (n, v n)).map (·.1)).Nodup := by
    rw [List.map_map]
    have : ns.map ((·.1) ∘ fun n => (n, v n)) = ns := by
      conv => rhs; rw [← List.map_id ns]
      rfl
    rw [this]; exact nd
  have nd2 : (((ns.map fun n => (n, v n)).filter fun q => !decide (q.2 = ("" : Str))).map (·.1)).Nodup := (List.filter_sublist.map _).nodup nd1
  have pm : (finP (ns.map fun n => (n, v n))).Perm ((ns.map fun n => (n, v n)).filter fun q => !decide (q.2 = ("" : Str))) := List.mergeSort_perm _ _
  rw [valL_perm ((pm.map _).nodup_iff.mpr nd2) pm, valL_lkp]
  by_cases c : v n = ""
  · rw [c]
    cases q : lkp ((ns.map fun n => (n, v n)).filter fun q => !decide (q.2 = ("" : Str))) n with
    | none => rfl
    | some x =>
      have hx := lkp_mem q
      obtain ⟨h1, h2⟩ := List.mem_filter.mp hx
      obtain ⟨n', _, e⟩ := List.mem_map.mp h1
      injection e with e1 e2
      subst e1
      rw [← e2, c] at h2
      simp at h2
  · have hx : (n, v n) ∈ ((ns.map fun n => (n, v n)).filter fun q => !decide (q.2 = ("" : Str))) := List.mem_filter.mpr ⟨List.mem_map.mpr ⟨n, h, rfl⟩, by simp [c]⟩
    rw [lkp_at nd2 hx]; rfl
theorem stands (ms : List Mat) (l : Lab) (L : List Lab) (h : samplesP ms = some L) : ∃ s ∈ L, ∀ m ∈ ms, matM m s = matM m l := by
  unfold samplesP at h
  obtain ⟨R, hR, rfl⟩ := Option.map_eq_some_iff.mp h
  have e := rowsP_all ms _ _ _ hR
  subst e
  have nd : (namesM ms).Nodup := nodup_foldU _ _ List.nodup_nil
  have hm := mem_allR ms (stand ms l) (namesM ms) [[]] [] (by simp) fun n _ => stand_mem ms l n
  rw [List.nil_append] at hm
  refine ⟨_, List.mem_map.mpr ⟨_, hm, rfl⟩, fun m hmm => ?_⟩
  have hn : m.nm ∈ namesM ms := (mem_foldU _ _ _).mpr (.inr (List.mem_map.mpr ⟨m, hmm, rfl⟩))
  unfold matM
  rw [finP_val _ nd (stand ms l) m.nm hn, decide_eq_decide.mpr (stand_iff ms l m hmm)]
theorem wsM_le (n : Str) : ∀ ms : List Mat, (∀ m ∈ ms, m.vs.length ≤ 10) → (wsM ms n).length ≤ 10 * ms.length
  | [], _ => Nat.le_refl _
  | m :: ms, h => by
    have ih := wsM_le n ms fun x hx => h x (List.mem_cons_of_mem _ hx)
    have h0 := h m List.mem_cons_self
    rw [wsM_cons, List.length_append, List.length_cons]
    split
    · omega
    · simp; omega
theorem samplesP_fact (ms : List Mat) (h : ms.length ≤ 100) (L : List Lab) (e : samplesP ms = some L) : L.length ≤ 300 ∧ ∀ s ∈ L, s.length ≤ 1000 := by
  unfold samplesP at e
  obtain ⟨R, hR, rfl⟩ := Option.map_eq_some_iff.mp e
  have nlen : (namesM ms).length ≤ 100 := by have := foldU_len (ms.map (·.nm)) []; simp at this; unfold namesM; omega
  obtain ⟨h1, h2⟩ := rowsP_fact ms (namesM ms) [[]] R (by simp) (fun p hp => by simp at hp; subst hp; simp; omega) hR
  refine ⟨by rw [List.length_map]; exact h1, fun s hs => ?_⟩
  obtain ⟨p, hp, rfl⟩ := List.mem_map.mp hs
  have pm : (finP p).Perm (p.filter fun q => !decide (q.2 = ("" : Str))) := List.mergeSort_perm _ _
  have hl := List.length_filter_le (fun q : Str × Str => !decide (q.2 = ("" : Str))) p
  have := h2 p hp
  rw [pm.length_eq]; omega
theorem wf_labs (L : List Lab) (h : L.length ≤ 300) (h2 : ∀ s ∈ L, s.length ≤ 1000) : wfD 8 (.list (L.map encB)) = true := by
  show (decide ((L.map encB).length < 1000000) && (L.map encB).all (wfD 7)) = true
  rw [Bool.and_eq_true, decide_eq_true_eq, List.length_map, List.all_eq_true]
  refine ⟨by omega, fun x hx => ?_⟩
  obtain ⟨l, hl, rfl⟩ := List.mem_map.mp hx
  show (decide ((l.map encP).length < 1000000) && (l.map encP).all (wfD 6)) = true
  rw [Bool.and_eq_true, decide_eq_true_eq, List.length_map, List.all_eq_true]
  refine ⟨by have := h2 l hl; omega, fun x hx => ?_⟩
  obtain ⟨p, _, rfl⟩ := List.mem_map.mp hx
  rfl
/-! ### the end of a way; settings; matchers of trees; considered alerts -/
def endR (rs : List Rt) (l : Lab) : Int := ((0 :: wayR rs l rs.length 0).getLast?).getD 0
theorem way_same (rs : List Rt) (l : Lab) : wayR rs l (rs.length + 1) 0 = wayR rs l rs.length 0 := way_stable rs l _ _ 0 (by omega) (by omega)
theorem end_snoc (rs : List Rt) (l : Lab) (hp : 0 < rs.length) : (∃ P, (0 :: wayR rs l rs.length 0) = P ++ [endR rs l]) ∧ 0 ≤ endR rs l ∧ endR rs l < rs.length := by
  obtain ⟨P, y, h1, _, h3, _⟩ := way_snoc rs l rs.length 0
  have e : endR rs l = y := by unfold endR; rw [h1, List.getLast?_concat]; rfl
  rw [e]
  exact ⟨⟨P, h1⟩, h3 (by omega) (by omega)⟩
def encSt (r : Rt) : D := .tuple [.tuple (r.gr.map PyData.str), .int r.wt, .int r.iv, .int r.ag, .tuple (r.mu.map PyData.str), .str r.po]
theorem shp_st (r : Rt) : shpD (encSt r) = true := by
  refine shp_of ?_ ?_
  · show (PyData.plainAll (r.gr.map PyData.str) && (true && (true && (true && (PyData.plainAll (r.mu.map PyData.str) && (true && true)))))) = true
    rw [plain_strs, plain_strs]; rfl
  · have h : PyData.depth (encSt r) = max (PyData.depthAll (r.gr.map PyData.str) + 1) (max 0 (max 0 (max 0 (max (PyData.depthAll (r.mu.map PyData.str) + 1) (max 0 0))))) + 1 := rfl
    rw [h, depth_strs, depth_strs]; omega
theorem eqS_st (neg : Bool) (r q : Rt) : eqS neg (.d (encSt r)) (.d (encSt q)) = .ok (.d (.bool (if neg then !PyData.eqv (encSt r) (encSt q) else PyData.eqv (encSt r) (encSt q)))) := by
  show eqG neg _ _ = _
  unfold eqG
  have h : shpD (encSt r) = true ∧ shpD (encSt q) = true := ⟨shp_st r, shp_st q⟩
  exact if_pos h
def nilRt : Rt := ⟨none, [], [], 0, 0, 0, [], ""⟩
def atEnd (rs : List Rt) (l : Lab) : Rt := (rs[(endR rs l).toNat]?).getD nilRt
theorem at_end (rs : List Rt) (l : Lab) (hp : 0 < rs.length) : ixS (.d (.list (rs.map encRt))) (.d (.int (endR rs l))) = .ok (.d (encRt (atEnd rs l))) ∧ ixS (.ol (rs.map encRt)) (.d (.int (endR rs l))) = .ok (.d (encRt (atEnd rs l))) := by
  obtain ⟨_, h0, h1⟩ := end_snoc rs l hp
  have hlt : (endR rs l).toNat < rs.length := by omega
  have hg : rs[(endR rs l).toNat]? = some (atEnd rs l) := by
    unfold atEnd
    rw [List.getElem?_eq_getElem hlt]; rfl
  have e := atI_map' encRt rs (endR rs l) (atEnd rs l) h0 hg
  exact ⟨by rw [ixS_l, e], by rw [ixS_ol, e]⟩
theorem matchers_of_ok (rs : List Rt) (hm : (rs.flatMap (·.ms)).length ≤ 100000) : matchers_of_f [.list (rs.map encRt)] = .ok (.ol ((rs.flatMap (·.ms)).map encMt)) := by
  have hz := line16
  have em : (rs.flatMap fun r : Rt => r.ms.map encMt) = (rs.flatMap (·.ms)).map encMt := (List.map_flatMap ..).symm
  have q := lcE2_flat encRt (fun r : Rt => r.ms.map encMt) (fi := seqD (getV 0)) (k := setD 1) (t := yesT) (inn := lcIn (seqD (bin ixS (peek 1) (kon (.int 1)))) (setD 2) yesT (getV 2) [2]) (vs := [1, 2]) (ρ := [some (.d (.list (rs.map encRt))), none, none]) rs rfl rfl (by rw [em, List.length_map]; omega) fun r _ => ⟨[some (.d (.list (rs.map encRt))), some (.d (encRt r)), none], rfl, rfl, by
    have z := lcF_mapα encMt (fun _ => true) encMt (k := setD 2) (t := yesT) (e := getV 2) (ρ0 := [some (.d (.list (rs.map encRt))), some (.d (encRt r)), none]) r.ms fun m _ => ⟨_, rfl, rfl, fun _ => ⟨.d (encMt m), rfl, rfl⟩⟩
    rw [List.filter_eq_self.mpr fun _ _ => rfl] at z
    exact z⟩
  rw [em] at q
  have hb : ∀ ρ, ρ = [some (.d (.list (rs.map encRt))), none, none] → matchers_of_b ρ = .ok (.rt (.ol ((rs.flatMap (·.ms)).map encMt))) := by
    rintro _ rfl
    unfold matchers_of_b
    rw [retS_ap, q]; rfl
  exact runB_rt (hb _ rfl) rfl
def consP (mu ms : List Mat) : Option (List Lab) := (samplesP (mu ++ ms)).map fun L => L.filter fun l => mu.all fun m => matM m l
theorem considered_ok (mu ms : List Mat) (h1 : (mu ++ ms).length ≤ 100) (h2 : ∀ m ∈ mu ++ ms, m.vs.length ≤ 100) : considered_f [.list (mu.map encMt), .list (ms.map encMt)] = (match consP mu ms with | none => .ex 0 [] | some L => .ok (.ol (L.map encB))) := by
  have hz := line16
  have sa := sample_alerts_ok (mu ++ ms) h1 h2
  have ad := addS_od (mu.map encMt) (ms.map encMt) (by rw [List.length_map, List.length_map, ← List.length_append]; omega)
  rw [← List.map_append] at ad
  have mt := fun l => matches_all_ok (.list (mu.map encMt)) mu l (.inr rfl)
  have hb : ∀ ρ, ρ = [some (.d (.list (mu.map encMt))), some (.d (.list (ms.map encMt))), none] → considered_b ρ = (match consP mu ms with | none => .ex 0 [] | some L => .ok (.rt (.ol (L.map encB)))) := by
    rintro _ rfl
    unfold considered_b
    unfold consP
    cases q : samplesP (mu ++ ms) with
    | none =>
      rw [q] at sa
      rw [retS_ap, lcE_ap]
      generalize mu.map encMt = X at *
      generalize ms.map encMt = Y at *
      generalize (mu ++ ms).map encMt = Z at *
      simp [ad, sa]
    | some L =>
      rw [q] at sa
      have sa : sample_alerts_f [.list ((mu ++ ms).map encMt)] = .ok (.ol (L.map encB)) := sa
      obtain ⟨l1, _⟩ := samplesP_fact (mu ++ ms) h1 L q
      have z := lcE_mapα encB (fun l => mu.all fun m => matM m l) encB (fi := seqD (callF 1 sample_alerts_f (conA (bin addS (callB listS (conB (peek 0) nilB)) (peek 1)) nilA))) (k := setD 2) (t := tru (callF 2 matches_all_f (conA (getV 0) (conA (getV 2) nilA)))) (e := getV 2) (vs := [2]) (ρ := [some (.d (.list (mu.map encMt))), some (.d (.list (ms.map encMt))), none]) L (by
        show _ = Pl.R.ok (L.map encB)
        generalize L.map encB = W at *
        generalize mu.map encMt = X at *
        generalize ms.map encMt = Y at *
        generalize (mu ++ ms).map encMt = Z at *
        simp [ad, sa]) (by omega) fun l _ => ⟨[some (.d (.list (mu.map encMt))), some (.d (.list (ms.map encMt))), some (.d (encB l))], rfl, by
          have := mt l
          generalize mu.map encMt = X at *
          generalize encB l = Y at *
          simp [this], fun _ => ⟨.d (encB l), rfl, rfl⟩⟩
      rw [retS_ap, z]; rfl
  have h0 := hb _ rfl
  unfold considered_f runB startE
  cases q : consP mu ms with
  | none => rw [q] at h0; simp [h0]
  | some L =>
    rw [q] at h0
    generalize L.map encB = Z at *
    simp [h0]
theorem flat_len (rs : List Rt) (n : Nat) (h : ∀ r ∈ rs, r.ms.length ≤ n) : (rs.flatMap (·.ms)).length ≤ n * rs.length := by
  induction rs with
  | nil => simp
  | cons r rs ih =>
    have h1 := h r List.mem_cons_self
    have h2 := ih fun q hq => h q (List.mem_cons_of_mem _ hq)
    rw [List.flatMap_cons, List.length_append, List.length_cons, Nat.mul_add]
    omega
/-- a tree as the law makes it -/
structure RtsOk (rs : List Rt) : Prop where
  tr : TreeOk rs
  ps : 0 < rs.length
  le : rs.length ≤ 6
  pa : ParOk rs
  sz : ∀ r ∈ rs, r.ms.length ≤ 3 ∧ ∀ m ∈ r.ms, m.vs.length ≤ 2
theorem RtsOk.flat {rs : List Rt} (h : RtsOk rs) : (rs.flatMap (·.ms)).length ≤ 18 ∧ ∀ m ∈ rs.flatMap (·.ms), m.vs.length ≤ 2 := by
  refine ⟨by have := flat_len rs 3 fun r hr => (h.sz r hr).1; have := h.le; omega, fun m hm => ?_⟩
  obtain ⟨r, hr, hm⟩ := List.mem_flatMap.mp hm
  exact (h.sz r hr).2 m hm
def labO : Option Lab → D
  | none => .none
  | some l => encB l
theorem way_last (rs : List Rt) (l : Lab) (h : RtsOk rs) : ∃ P, law_way_f [.list (rs.map encRt), encB l] = .ok (.ol P) ∧ atI P (-1) = some (.int (endR rs l)) := by
  obtain ⟨⟨P, h1⟩, _⟩ := end_snoc rs l h.ps
  have a := law_way_ok rs l h.tr (by have := h.le; omega) h.ps
  rw [h1] at a
  exact ⟨_, a, last_int P _⟩
theorem wf_labO (o : Option Lab) (h : ∀ l, o = some l → l.length ≤ 1000) : wfD 8 (labO o) = true := by
  cases o with
  | none => rfl
  | some l =>
    have := h l rfl
    show (decide ((l.map encP).length < 1000000) && (l.map encP).all (wfD 7)) = true
    rw [Bool.and_eq_true, decide_eq_true_eq, List.length_map, List.all_eq_true]
    refine ⟨by omega, fun x hx => ?_⟩
    obtain ⟨p, _, rfl⟩ := List.mem_map.mp hx
    rfl
/-! ### the law's case: a tree, matchers that must hold, the considered alerts -/
abbrev eC (sc : D) (N W : List Str) (T : List Rt) (k : Option SV) : En := [some (.d sc), some (.d (.list (N.map PyData.str))), some (.d (.list (W.map PyData.str))), some (.ol (T.map encRt)), k, none, none, none, none, none, none, none, none]
def RtB (i : Nat) (r : Rt) : Prop := r.ms.length ≤ (if i % 2 = 1 then 2 else 3) ∧ ∀ m ∈ r.ms, m.vs.length ≤ 2
theorem lcase_w1 (sc : D) (N W : List Str) (T : List Rt) (k : Int) (h2 : 2 ≤ k) (hk : k < T.length) (ht : TreeOk T) (hT : T.length ≤ 6) (hpa : ParOk T) (hs : ∀ i r, T[i]? = some r → RtB i r) :
    ∃ T', law_case_w1 (eC sc N W T (some (.d (.int k)))) = .ok (.nx (eC sc N W T' none)) ∧ TreeOk T' ∧ T'.length = T.length ∧ (∀ i r, T'[i]? = some r → RtB i r) ∧ ParOk T' := by
  have hz := line16
  by_cases c : k % 2 = 0
  · have l1 : (k - 1).toNat < T.length := by omega
    have l2 : k.toNat < T.length := by omega
    have g1 := List.getElem?_eq_getElem l1
    have g2 := List.getElem?_eq_getElem l2
    generalize T[(k - 1).toNat] = p at g1
    generalize T[k.toNat] = q at g2
    have s1 := hs _ _ g1
    have s2 := hs _ _ g2
    have b1 : p.ms.length ≤ 2 := by have := s1.1; rw [if_pos (by omega)] at this; exact this
    have i1 : ixS (.ol (T.map encRt)) (.d (.int (k - 1))) = .ok (.d (encRt p)) := by rw [ixS_ol, atI_map' encRt T (k - 1) p (by omega) g1]
    have i2 : ixS (.ol (T.map encRt)) (.d (.int k)) = .ok (.d (encRt q)) := by rw [ixS_ol, atI_map' encRt T k q (by omega) g2]
    have p0 : ixS (.d (encRt p)) (.d (.int 0)) = .ok (.d (encI p.par)) := rfl
    have p1 : ixS (.d (encRt p)) (.d (.int 1)) = .ok (.d (.tuple (p.ms.map encMt))) := rfl
    have q1 : ixS (.d (encRt q)) (.d (.int 1)) = .ok (.d (.tuple (q.ms.map encMt))) := rfl
    have q2 : ixS (.d (encRt q)) (.d (.int 2)) = .ok (.d (encSt q)) := rfl
    have sl : slS (.d (.tuple (q.ms.map encMt))) none (some 1) = .ok (.d (.tuple ((q.ms.take 1).map encMt))) := by rw [slS_t, List.map_take]; rw [show Pl.cutD (q.ms.map encMt) none (some 1) = (q.ms.map encMt).take 1 from cutD_to _ 1]
    have ad := addS_tt (p.ms.map encMt) ((q.ms.take 1).map encMt) (by simp; omega)
    rw [← List.map_append] at ad
    have hix : ixN T.length k = some k.toNat := by unfold ixN; rw [if_pos (by omega), if_pos (by omega)]
    have hl : (T.map encRt).length = T.length := List.length_map ..
    refine ⟨T.set k.toNat ⟨p.par, p.ms ++ q.ms.take 1, q.gr, q.wt, q.iv, q.ag, q.mu, q.po⟩, ?_, ?_, List.length_set, ?_, fun j r hr h0 => by
      rw [List.getElem?_set] at hr
      split at hr
      · cases hr
        exact hpa _ p g1 (by omega)
      · exact hpa j r hr h0⟩
    · show _ = Pl.R.ok (Fl.nx [some (.d sc), some (.d (.list (N.map PyData.str))), some (.d (.list (W.map PyData.str))), some (.ol ((T.set k.toNat ⟨p.par, p.ms ++ q.ms.take 1, q.gr, q.wt, q.iv, q.ag, q.mu, q.po⟩).map encRt)), none, none, none, none, none, none, none, none, none])
      rw [List.map_set]
      show _ = Pl.R.ok (Fl.nx [some (.d sc), some (.d (.list (N.map PyData.str))), some (.d (.list (W.map PyData.str))), some (.ol ((T.map encRt).set k.toNat (.tuple [encI p.par, .tuple ((p.ms ++ q.ms.take 1).map encMt), encSt q]))), none, none, none, none, none, none, none, none, none])
      show law_case_w1 [some (.d sc), some (.d (.list (N.map PyData.str))), some (.d (.list (W.map PyData.str))), some (.ol (T.map encRt)), some (.d (.int k)), none, none, none, none, none, none, none, none] = _
      unfold law_case_w1
      generalize T.map encRt = X at *
      generalize encRt p = P at *
      generalize encRt q = Q at *
      generalize (p.ms ++ q.ms.take 1).map encMt = A at *
      generalize (q.ms.take 1).map encMt = A1 at *
      generalize q.ms.map encMt = A2 at *
      generalize p.ms.map encMt = A3 at *
      simp [setS, c, i1, i2, p0, p1, q1, q2, sl, ad, hl, hix]
    · intro j r hr x hx
      rw [List.getElem?_set] at hr
      split at hr
      · cases hr
        have := ht _ p g1 x hx
        omega
      · exact ht j r hr x hx
    · intro j r hr
      rw [List.getElem?_set] at hr
      split at hr
      · cases hr
        rename_i e
        refine ⟨?_, fun m hm => ?_⟩
        · rw [if_neg (by omega)]
          show (p.ms ++ q.ms.take 1).length ≤ 3
          rw [List.length_append, List.length_take]; omega
        · rcases List.mem_append.mp hm with z | z
          · exact s1.2 m z
          · exact s2.2 m (List.mem_of_mem_take z)
      · exact hs j r hr
  · refine ⟨T, ?_, ht, rfl, hs, hpa⟩
    unfold law_case_w1
    generalize T.map encRt = X at *
    simp [c]
theorem lcase_rows (ρ7 : List Mat → En) (h : ∀ A r, ∃ ρ1, tupG 3 (gsC (setD 8) (gsC (setD 9) (gsC (setD 10) gsN))) (encRt r) (ρ7 A) = .ok ρ1 ∧ (A.length + r.ms.length ≤ 1000 → law_case_w2 ρ1 = .ok (.nx (ρ7 (A ++ r.ms))))) : ∀ (T : List Rt) (A : List Mat), A.length + (T.flatMap (·.ms)).length ≤ 1000 → forF (tupG 3 (gsC (setD 8) (gsC (setD 9) (gsC (setD 10) gsN)))) law_case_w2 (T.map encRt) (ρ7 A) = .ok (.nx (ρ7 (A ++ T.flatMap (·.ms))))
  | [], A, _ => by simp [forF]
  | r :: T, A, hl => by
    rw [List.flatMap_cons, List.length_append] at hl
    obtain ⟨ρ1, h1, h2⟩ := h A r
    have ih := lcase_rows ρ7 h T (A ++ r.ms) (by rw [List.length_append]; omega)
    rw [List.map_cons, forF, h1]
    simp only [h2 (by omega), ok_bind]
    rw [ih, List.flatMap_cons, List.append_assoc]
def foundD (o : Option (List Lab)) : D := match o with
  | none => .none
  | some L => .list (L.map encB)
theorem law_case_ok (ns : List Int) (hn : ns.length ≤ 63) : ∃ (T : List Rt) (mu : List Mat), RtsOk T ∧ mu.length ≤ 2 ∧ (∀ m ∈ mu, m.vs.length ≤ 2) ∧ law_case_f [.list (ns.map PyData.int)] = .ok (.d (.tuple [.list (T.map encRt), .list (mu.map encMt), foundD (consP mu (T.flatMap (·.ms)))])) := by
  have hz := line16
  obtain ⟨c0, hc0⟩ := cell_ok ns 0 (by omega)
  obtain ⟨c1, hc1⟩ := cell_ok ns 1 (by omega)
  obtain ⟨c2, hc2⟩ := cell_ok ns 2 (by omega)
  rw [cell_eq.symm] at hc0 hc1 hc2
  obtain ⟨N, n1, n2, _⟩ := words_ok c0 3 (by omega) (by omega)
  obtain ⟨W, w1, w2, _⟩ := worths_ok c1 2 (by omega) (by omega)
  have hN : N.length = 3 := by simpa using n2
  have hW : W.length = 2 := by simpa using w2
  obtain ⟨T0, t1, t2, t3, t4, t5, t6⟩ := tree_ok' ns 3 (4 + c0 % 6) N W (by omega) (by omega) (by omega) (by omega) (by omega) (by omega)
  have hT0 : T0.length ≤ 6 := by omega
  have hs0 : ∀ (i : Nat) (r : Rt), T0[i]? = some r → RtB i r := fun i r hr => by
    obtain ⟨a, _, b⟩ := t5 r (List.mem_of_getElem? hr)
    exact ⟨by split <;> omega, b⟩
  have st3 : ∃ T : List Rt, RtsOk T ∧ ifS (asT (bin (eqS false) (bin modS (callF 2 law_cell_f (conA (getV 0) (conA (kon (.int 1)) nilA))) (kon (.int 2))) (kon (.int 0)))) (forS (rngD2 (conB (kon (.int 2)) (conB (callB lenS (conB (peek 3) nilB)) nilB))) (setD 4) law_case_w1) skip (eC (.list (ns.map PyData.int)) N W T0 none) = .ok (.nx (eC (.list (ns.map PyData.int)) N W T none)) := by
    have fin : ∀ T : List Rt, TreeOk T → T.length = T0.length → (∀ (i : Nat) (r : Rt), T[i]? = some r → RtB i r) → ParOk T → RtsOk T := fun T a b c d => ⟨a, by omega, by omega, d, fun r hr => by
      obtain ⟨i, hi⟩ := List.getElem?_of_mem hr
      obtain ⟨x, y⟩ := c i r hi
      exact ⟨by split at x <;> omega, y⟩⟩
    by_cases c : c1 % 2 = 0
    · obtain ⟨ρ', e1, T, e2, e3, e4, e5, e6⟩ := forF_inv (k := setD 4) (b := law_case_w1) (fun _ ρ => ∃ T : List Rt, ρ = eC (.list (ns.map PyData.int)) N W T none ∧ TreeOk T ∧ T.length = T0.length ∧ (∀ (i : Nat) (r : Rt), T[i]? = some r → RtB i r) ∧ ParOk T) (rng 2 T0.length) _ ⟨T0, rfl, t2, rfl, hs0, t6⟩ (by
        rintro i x _ hx ⟨T, rfl, a1, a2, a3, a4⟩
        obtain ⟨rfl, hi⟩ := rng_at hx
        obtain ⟨T', b1, b2, b3, b4, b5⟩ := lcase_w1 (.list (ns.map PyData.int)) N W T (2 + (i : Nat)) (by omega) (by omega) a1 (by omega) a4 a3
        exact ⟨_, _, rfl, .inl b1, T', rfl, b2, by omega, b4, b5⟩)
      subst e2
      refine ⟨T, fin T e3 e4 e5 e6, ?_⟩
      have te : asT (bin (eqS false) (bin modS (callF 2 law_cell_f (conA (getV 0) (conA (kon (.int 1)) nilA))) (kon (.int 2))) (kon (.int 0))) (eC (.list (ns.map PyData.int)) N W T0 none) = .ok true := by
        simp [hc1, c]
      rw [ifS_ap, te, ok_bind, if_pos rfl]
      exact forS_rng2 (i := 2) (j := T0.length) (by simp) (by simp) okR_2 (okR_of (by omega) (by omega)) e1
    · refine ⟨T0, fin T0 t2 rfl hs0 t6, ?_⟩
      have te : asT (bin (eqS false) (bin modS (callF 2 law_cell_f (conA (getV 0) (conA (kon (.int 1)) nilA))) (kon (.int 2))) (kon (.int 0))) (eC (.list (ns.map PyData.int)) N W T0 none) = .ok false := by
        simp [hc1, c]
      rw [ifS_ap, te]; rfl
  obtain ⟨T, hT, st3⟩ := st3
  obtain ⟨ds, d1, d2, _⟩ := draws_ok c2 6 (by omega) (by omega)
  rw [draws_eq.symm] at d1
  have hd : ds.length = 6 := by simpa using d2
  obtain ⟨x5, _, h5⟩ := atI_ints ds 5 (by omega) (by omega)
  have r5 : okR (x5 % 3) = true := okR_of (by omega) (by omega)
  obtain ⟨mu, m1, m2, m3⟩ := lcE_ex encMt (fun m => m.vs.length ≤ 2) (fi := rngD1 (conB (bin modS (callB intS (conB (bin ixS (peek 5) (kon (.int 5))) nilB)) (kon (.int 3))) nilB)) (k := setD 4) (e := callF 4 law_matcher_f (conA (bin ixS (peek 5) (bin mulA (kon (.int 2)) (peek 4))) (conA (bin ixS (peek 5) (bin addS (bin mulA (kon (.int 2)) (peek 4)) (kon (.int 1)))) (conA (getV 1) (conA (getV 2) nilA))))) (vs := [4]) (ρ := [some (.d (.list (ns.map PyData.int))), some (.d (.list (N.map PyData.str))), some (.d (.list (W.map PyData.str))), some (.ol (T.map encRt)), none, some (.ol (ds.map PyData.int)), none, none, none, none, none, none, none]) (rng 0 (x5 % 3))
    (rngD1_is (j := x5 % 3) (by simp [h5]) r5) (by rw [rng_len]; omega) (by
      intro x hx
      obtain ⟨i, rfl, hi⟩ := rng_mem hx
      obtain ⟨a, _, ha⟩ := atI_ints ds (2 * i) (by omega) (by omega)
      obtain ⟨b, _, hb⟩ := atI_ints ds (2 * i + 1) (by omega) (by omega)
      obtain ⟨m, k1, k2⟩ := matcher_ok a b N W (by omega) (by omega)
      refine ⟨_, .d (encMt m), m, rfl, ?_, rfl, k2⟩
      generalize encMt m = Y at *
      simp [ha, hb, k1])
  rw [rng_len] at m2
  have hmu : mu.length ≤ 2 := by omega
  refine ⟨T, mu, hT, hmu, m3, ?_⟩
  obtain ⟨f1, f2⟩ := hT.flat
  have hal : (mu ++ T.flatMap (·.ms)).length ≤ 20 := by rw [List.length_append]; omega
  have hall : (mu ++ T.flatMap (·.ms)).length ≤ 100 := by omega
  have hvs : ∀ m ∈ mu ++ T.flatMap (·.ms), m.vs.length ≤ 2 := fun m hm => by
    rcases List.mem_append.mp hm with z | z
    · exact m3 m z
    · exact f2 m z
  have ls := law_samples_ok (mu ++ T.flatMap (·.ms)) hall fun n => by
    have := wsM_le n (mu ++ T.flatMap (·.ms)) fun m hm => by have := hvs m hm; omega
    omega
  have lr := lcase_rows (fun A => [some (.d (.list (ns.map PyData.int))), some (.d (.list (N.map PyData.str))), some (.d (.list (W.map PyData.str))), some (.d (.list (T.map encRt))), none, some (.ol (ds.map PyData.int)), some (.ol (mu.map encMt)), some (.ol (A.map encMt)), none, none, none, none, none]) (fun A r => ⟨[some (.d (.list (ns.map PyData.int))), some (.d (.list (N.map PyData.str))), some (.d (.list (W.map PyData.str))), some (.d (.list (T.map encRt))), none, some (.ol (ds.map PyData.int)), some (.ol (mu.map encMt)), some (.ol (A.map encMt)), some (.d (encI r.par)), some (.d (.tuple (r.ms.map encMt))), some (.d (encSt r)), none, none], rfl, fun hl => by
    have ad := addS_oo (A.map encMt) (r.ms.map encMt) (by rw [List.length_map, List.length_map]; omega)
    rw [← List.map_append] at ad
    show law_case_w2 _ = .ok (.nx [_, _, _, _, _, _, _, some (.ol ((A ++ r.ms).map encMt)), none, none, none, none, none])
    unfold law_case_w2
    generalize (A ++ r.ms).map encMt = Z at *
    generalize A.map encMt = Z1 at *
    generalize r.ms.map encMt = Z2 at *
    simp [ad]⟩) T mu (by rw [← List.length_append]; omega)
  have hb : ∀ ρ, ρ = [some (.d (.list (ns.map PyData.int))), none, none, none, none, none, none, none, none, none, none, none, none] → law_case_b ρ = .ok (.rt (.d (.tuple [.list (T.map encRt), .list (mu.map encMt), foundD (consP mu (T.flatMap (·.ms)))]))) := by
    rintro _ rfl
    unfold law_case_b
    refine seq_nx (asg_nx (r := .ol (N.map PyData.str)) (by simp [hc0, n1]) rfl) (seq_nx (asg_nx (r := .ol (W.map PyData.str)) (by simp [hc1, w1]) rfl) (seq_nx (ρ1 := eC (.list (ns.map PyData.int)) N W T0 none) ?_ (seq_nx st3 ?_)))
    · rw [frzS_ap]
      refine asg_nx (r := .ol (T0.map encRt)) (ρ := [some (.d (.list (ns.map PyData.int))), some (.d (.list (N.map PyData.str))), some (.d (.list (W.map PyData.str))), none, none, none, none, none, none, none, none, none, none]) ?_ rfl
      generalize T0.map encRt = X at *
      simp [hc0, t1]
    refine seq_nx (asg_nx (r := .ol (ds.map PyData.int)) (by simp [hc2, d1]) rfl) ?_
    refine seq_nx (ρ1 := [some (.d (.list (ns.map PyData.int))), some (.d (.list (N.map PyData.str))), some (.d (.list (W.map PyData.str))), some (.ol (T.map encRt)), none, some (.ol (ds.map PyData.int)), some (.ol (mu.map encMt)), none, none, none, none, none, none]) ?_ ?_
    · rw [frzS_ap]
      exact asg_nx (ρ := [some (.d (.list (ns.map PyData.int))), some (.d (.list (N.map PyData.str))), some (.d (.list (W.map PyData.str))), some (.ol (T.map encRt)), none, some (.ol (ds.map PyData.int)), none, none, none, none, none, none, none]) m1 rfl
    refine seq_nx (asg_nx (r := .ol (mu.map encMt)) rfl rfl) ?_
    refine seq_nx (ρ1 := [some (.d (.list (ns.map PyData.int))), some (.d (.list (N.map PyData.str))), some (.d (.list (W.map PyData.str))), some (.d (.list (T.map encRt))), none, some (.ol (ds.map PyData.int)), some (.ol (mu.map encMt)), some (.ol ((mu ++ T.flatMap (·.ms)).map encMt)), none, none, none, none, none]) ?_ ?_
    · rw [frzS_ap]
      exact forS_lst (ρ := [some (.d (.list (ns.map PyData.int))), some (.d (.list (N.map PyData.str))), some (.d (.list (W.map PyData.str))), some (.d (.list (T.map encRt))), none, some (.ol (ds.map PyData.int)), some (.ol (mu.map encMt)), some (.ol (mu.map encMt)), none, none, none, none, none]) rfl lr
    unfold consP
    generalize mu ++ T.flatMap (·.ms) = M at *
    generalize ds.map PyData.int = DS at *
    generalize N.map PyData.str = NN at *
    generalize W.map PyData.str = WW at *
    generalize T.map encRt = TT at *
    generalize PyData.list (ns.map PyData.int) = SC at *
    cases q : samplesP M with
    | none =>
      rw [q] at ls
      generalize mu.map encMt = MU at *
      refine seq_nx (ρ1 := [some (.d SC), some (.d (.list NN)), some (.d (.list WW)), some (.d (.list TT)), none, some (.ol DS), some (.ol MU), some (.d (.list (M.map encMt))), none, none, none, some (.d .none), none]) ?_ ?_
      · rw [frzS_ap]
        refine asg_nx (r := .d .none) (ρ := [some (.d SC), some (.d (.list NN)), some (.d (.list WW)), some (.d (.list TT)), none, some (.ol DS), some (.ol MU), some (.d (.list (M.map encMt))), none, none, none, none, none]) ?_ rfl
        generalize M.map encMt = MM at *
        simp [ls]
      · simp [foundD]
    | some L =>
      rw [q] at ls
      have ls : law_samples_f [.list (M.map encMt)] = .ok (.ol (L.map encB)) := ls
      obtain ⟨l1, _⟩ := samplesP_fact M hall L q
      refine seq_nx (ρ1 := [some (.d SC), some (.d (.list NN)), some (.d (.list WW)), some (.d (.list TT)), none, some (.ol DS), some (.ol (mu.map encMt)), some (.d (.list (M.map encMt))), none, none, none, some (.ol (L.map encB)), none]) ?_ ?_
      · rw [frzS_ap]
        refine asg_nx (r := .ol (L.map encB)) (ρ := [some (.d SC), some (.d (.list NN)), some (.d (.list WW)), some (.d (.list TT)), none, some (.ol DS), some (.ol (mu.map encMt)), some (.d (.list (M.map encMt))), none, none, none, none, none]) ?_ rfl
        generalize M.map encMt = MM at *
        generalize L.map encB = LL at *
        simp [ls]
      have z := lcE_mapα encB (fun l => mu.all fun m => matM m l) encB (fi := seqD (getV 11)) (k := setD 12) (t := tru (callF 2 law_matches_f (conA (getV 6) (conA (getV 12) nilA)))) (e := getV 12) (vs := [12]) (ρ := [some (.d SC), some (.d (.list NN)), some (.d (.list WW)), some (.d (.list TT)), none, some (.ol DS), some (.d (.list (mu.map encMt))), some (.d (.list (M.map encMt))), none, none, none, some (.d (.list (L.map encB))), none]) L rfl (by omega) fun l _ => ⟨[some (.d SC), some (.d (.list NN)), some (.d (.list WW)), some (.d (.list TT)), none, some (.ol DS), some (.d (.list (mu.map encMt))), some (.d (.list (M.map encMt))), none, none, none, some (.d (.list (L.map encB))), some (.d (encB l))], rfl, by
          have := law_matches_ok (.list (mu.map encMt)) mu l (.inr rfl)
          generalize mu.map encMt = X at *
          generalize encB l = Y at *
          simp [this], fun _ => ⟨.d (encB l), rfl, rfl⟩⟩
      refine seq_nx (ρ1 := [some (.d SC), some (.d (.list NN)), some (.d (.list WW)), some (.d (.list TT)), none, some (.ol DS), some (.d (.list (mu.map encMt))), some (.d (.list (M.map encMt))), none, none, none, some (.ol ((L.filter fun l => mu.all fun m => matM m l).map encB)), none]) ?_ rfl
      rw [ifS_ap]
      show (Pl.R.ok true >>= _) = _
      rw [ok_bind, if_pos rfl, frzS_ap]
      exact asg_nx z rfl
  exact runB_rt (hb _ rfl) rfl
/-! ### lineage, rivals, blockers, survey -/
def parI (rs : List Rt) (k : Int) : Int := ((rs[k.toNat]?).bind (·.par)).getD 0
def mAt (rs : List Rt) (k : Int) (l : Lab) : Bool := ((rs[k.toNat]?).getD nilRt).ms.all fun m => matM m l
theorem par_at {rs : List Rt} (h : RtsOk rs) {k : Int} (h0 : 0 < k) (h1 : k < rs.length) : ∃ r, rs[k.toNat]? = some r ∧ r.par = some (parI rs k) ∧ 0 ≤ parI rs k ∧ parI rs k < k := by
  have hlt : k.toNat < rs.length := by omega
  have g := List.getElem?_eq_getElem hlt
  generalize rs[k.toNat] = r at g
  have hs := h.pa _ r g (by omega)
  obtain ⟨p, hp⟩ := Option.isSome_iff_exists.mp hs
  have e : parI rs k = p := by unfold parI; rw [g]; show r.par.getD 0 = p; rw [hp]; rfl
  have := h.tr _ r g p hp
  exact ⟨r, g, by rw [hp, e], by omega, by omega⟩
theorem rt_at {rs : List Rt} {k : Int} (h0 : 0 ≤ k) (h1 : k < rs.length) : ∃ r, rs[k.toNat]? = some r ∧ ixS (.d (.list (rs.map encRt))) (.d (.int k)) = .ok (.d (encRt r)) ∧ ∀ l, mAt rs k l = r.ms.all fun m => matM m l := by
  have hlt : k.toNat < rs.length := by omega
  have g := List.getElem?_eq_getElem hlt
  generalize rs[k.toNat] = r at g
  exact ⟨r, g, by rw [ixS_l, atI_map' encRt rs k r h0 g], fun l => by unfold mAt; rw [g]; rfl⟩
def lineN (rs : List Rt) : Nat → Int → List Int
  | 0, _ => []
  | n + 1, k => if k = 0 then [] else k :: lineN rs n (parI rs k)
def lineR (rs : List Rt) (k : Int) : List Int := lineN rs k.toNat k
theorem line_stable {rs : List Rt} (h : RtsOk rs) : ∀ (n m : Nat) (k : Int), 0 ≤ k → k < rs.length → k.toNat ≤ n → k.toNat ≤ m → lineN rs n k = lineN rs m k
  | 0, 0, _, _, _, _, _ => rfl
  | 0, m + 1, k, _, _, h1, _ => by unfold lineN; rw [if_pos (by omega)]
  | n + 1, 0, k, _, _, _, h1 => by unfold lineN; rw [if_pos (by omega)]
  | n + 1, m + 1, k, h0, h1, h2, h3 => by
    unfold lineN
    by_cases c : k = 0
    · rw [if_pos c, if_pos c]
    · obtain ⟨r, _, _, p0, p1⟩ := par_at h (by omega : 0 < k) h1
      rw [if_neg c, if_neg c, line_stable h n m (parI rs k) p0 (by omega) (by omega) (by omega)]
theorem line_cons {rs : List Rt} (h : RtsOk rs) {k : Int} (h0 : 0 < k) (h1 : k < rs.length) : lineR rs k = k :: lineR rs (parI rs k) := by
  obtain ⟨r, _, _, p0, p1⟩ := par_at h h0 h1
  unfold lineR
  obtain ⟨n, hn⟩ : ∃ n, k.toNat = n + 1 := ⟨k.toNat - 1, by omega⟩
  rw [hn]
  show (if k = 0 then [] else k :: lineN rs n (parI rs k)) = _
  rw [if_neg (by omega), line_stable h n (parI rs k).toNat (parI rs k) p0 (by omega) (by omega) (by omega)]
theorem line_mem {rs : List Rt} (h : RtsOk rs) : ∀ (n : Nat) (k : Int), k.toNat ≤ n → 0 ≤ k → k < rs.length → ∀ m ∈ lineR rs k, 0 < m ∧ m < rs.length
  | 0, k, hn, h0, h1, m, hm => by
    have : k = 0 := by omega
    subst this
    cases hm
  | n + 1, k, hn, h0, h1, m, hm => by
    by_cases c : k = 0
    · subst c; cases hm
    · obtain ⟨r, _, _, p0, p1⟩ := par_at h (by omega : 0 < k) h1
      rw [line_cons h (by omega) h1] at hm
      rcases List.mem_cons.mp hm with rfl | hm
      · exact ⟨by omega, h1⟩
      · exact line_mem h n _ (by omega) p0 (by omega) m hm
theorem line_len {rs : List Rt} (h : RtsOk rs) : ∀ (n : Nat) (k : Int), k.toNat ≤ n → 0 ≤ k → k < rs.length → (lineR rs k).length ≤ n
  | 0, k, hn, h0, h1 => by
    have : k = 0 := by omega
    subst this
    exact Nat.le_refl _
  | n + 1, k, hn, h0, h1 => by
    by_cases c : k = 0
    · subst c; exact Nat.zero_le _
    · obtain ⟨r, _, _, p0, p1⟩ := par_at h (by omega : 0 < k) h1
      rw [line_cons h (by omega) h1, List.length_cons]
      have := line_len h n _ (by omega) p0 (by omega)
      omega
abbrev eLn (rs : List Rt) (k : Int) (R : List Int) : En := [some (.d (.list (rs.map encRt))), some (.d (.int k)), some (.ol (R.map PyData.int))]
theorem lineage_loop {rs : List Rt} (h : RtsOk rs) : ∀ (n : Nat) (k : Int) (R : List Int), 0 ≤ k → k < rs.length → k.toNat < n → R.length + k.toNat ≤ 3000 → whileF n lineage_t1 lineage_w1 (eLn rs k R) = .ok (.nx (eLn rs 0 (R ++ lineR rs k)))
  | 0, k, R, _, _, h2, _ => by omega
  | n + 1, k, R, h0, h1, h2, h3 => by
    have hz := line16
    by_cases c : k = 0
    · subst c
      unfold whileF lineage_t1
      show _ = Pl.R.ok (Fl.nx [some (.d (.list (rs.map encRt))), some (.d (.int 0)), some (.ol ((R ++ []).map PyData.int))])
      rw [List.append_nil]
      show (Pl.R.ok false >>= _) = _
      rfl
    · obtain ⟨r, g, p, p0, p1⟩ := par_at h (by omega : 0 < k) h1
      have ih := lineage_loop h n (parI rs k) (R ++ [k]) p0 (by omega) (by omega) (by simp; omega)
      have ix : ixS (.d (.list (rs.map encRt))) (.d (.int k)) = .ok (.d (encRt r)) := by rw [ixS_l, atI_map' encRt rs k r h0 g]
      have i0 : ixS (.d (encRt r)) (.d (.int 0)) = .ok (.d (.int (parI rs k))) := by
        show Pl.R.ok (SV.d (encI r.par)) = _
        rw [p]; rfl
      have hl : R.length < sizeLine := by omega
      have e1 : lineage_t1 (eLn rs k R) = .ok true := by
        unfold lineage_t1
        simp [c]
      have e2 : lineage_w1 (eLn rs k R) = .ok (.nx (eLn rs (parI rs k) (R ++ [k]))) := by
        unfold lineage_w1
        show _ = Pl.R.ok (Fl.nx [some (.d (.list (rs.map encRt))), some (.d (.int (parI rs k))), some (.ol ((R ++ [k]).map PyData.int))])
        show seqS _ _ [some (.d (.list (rs.map encRt))), some (.d (.int k)), some (.ol (R.map PyData.int))] = _
        generalize encRt r = Y at *
        generalize PyData.list (rs.map encRt) = X at *
        simp [hl, ix, i0]
      unfold whileF
      rw [e1, ok_bind, if_pos rfl, e2, ok_bind]
      show whileF n _ _ _ = _
      rw [ih, line_cons h (by omega) h1, List.append_assoc]; rfl
theorem lineage_ok {rs : List Rt} (h : RtsOk rs) (k : Int) (h0 : 0 ≤ k) (h1 : k < rs.length) : lineage_f [.list (rs.map encRt), .int k] = .ok (.ol ((lineR rs k).map PyData.int)) := by
  have hle := h.le
  have lp := lineage_loop h 1000000 k [] h0 h1 (by omega) (by simp; omega)
  have hb : ∀ ρ, ρ = [some (.d (.list (rs.map encRt))), some (.d (.int k)), none] → lineage_b ρ = .ok (.rt (.ol ((lineR rs k).map PyData.int))) := by
    rintro _ rfl
    unfold lineage_b
    exact seq_nx (asg_nx (r := .ol []) rfl rfl) (seq_nx (ρ1 := eLn rs 0 ([] ++ lineR rs k)) lp rfl)
  exact runB_rt (hb _ rfl) rfl
def rivB (rs : List Rt) (line : List Int) (o : Int) : Bool := line.any fun m => decide (o < m) && decide (parI rs o = parI rs m)
def rivR (rs : List Rt) (k : Int) : List Int := (irng 1 rs.length).filter (rivB rs (lineR rs k))
def ILs (xs : List Int) (s : SV) : Prop := s = .ol (xs.map PyData.int) ∨ s = .d (.list (xs.map PyData.int))
abbrev eRv (rs : List Rt) (k : Int) (s : SV) (F : List Int) (o x : Option SV) : En := [some (.d (.list (rs.map encRt))), some (.d (.int k)), some s, some (.ol (F.map PyData.int)), o, x]
theorem riv_in {rs : List Rt} (h : RtsOk rs) (k : Int) (s : SV) (F : List Int) (o : Int) (ho0 : 0 < o) (ho1 : o < rs.length) (hF : F.length ≤ 100) : ∀ u : List Int, (∀ m ∈ u, 0 < m ∧ m < rs.length) → forF (setD 5) rivals_w1 (u.map PyData.int) (eRv rs k s F (some (.d (.int o))) none) = .ok (.nx (eRv rs k s (if rivB rs u o = true then F ++ [o] else F) (some (.d (.int o))) none))
  | [], _ => rfl
  | m :: u, hu => by
    have hz := line16
    obtain ⟨m0, m1⟩ := hu m List.mem_cons_self
    have ih := riv_in h k s F o ho0 ho1 hF u fun x hx => hu x (List.mem_cons_of_mem _ hx)
    obtain ⟨r, g, p, _⟩ := par_at h ho0 ho1
    obtain ⟨q, g2, p2, _⟩ := par_at h m0 m1
    have ix : ixS (.d (.list (rs.map encRt))) (.d (.int o)) = .ok (.d (encRt r)) := by rw [ixS_l, atI_map' encRt rs o r (by omega) g]
    have ix2 : ixS (.d (.list (rs.map encRt))) (.d (.int m)) = .ok (.d (encRt q)) := by rw [ixS_l, atI_map' encRt rs m q (by omega) g2]
    have i0 : ixS (.d (encRt r)) (.d (.int 0)) = .ok (.d (.int (parI rs o))) := by
      show Pl.R.ok (SV.d (encI r.par)) = _
      rw [p]; rfl
    have i2 : ixS (.d (encRt q)) (.d (.int 0)) = .ok (.d (.int (parI rs m))) := by
      show Pl.R.ok (SV.d (encI q.par)) = _
      rw [p2]; rfl
    have hl : F.length < sizeLine := by omega
    have e : rivals_w1 (eRv rs k s F (some (.d (.int o))) (some (.d (.int m)))) = if (decide (o < m) && decide (parI rs o = parI rs m)) = true then .ok (.bk (eRv rs k s (F ++ [o]) (some (.d (.int o))) none)) else .ok (.nx (eRv rs k s F (some (.d (.int o))) none)) := by
      show rivals_w1 [some (.d (.list (rs.map encRt))), some (.d (.int k)), some s, some (.ol (F.map PyData.int)), some (.d (.int o)), some (.d (.int m))] = if (decide (o < m) && decide (parI rs o = parI rs m)) = true then .ok (.bk [some (.d (.list (rs.map encRt))), some (.d (.int k)), some s, some (.ol ((F ++ [o]).map PyData.int)), some (.d (.int o)), none]) else .ok (.nx [some (.d (.list (rs.map encRt))), some (.d (.int k)), some s, some (.ol (F.map PyData.int)), some (.d (.int o)), none])
      unfold rivals_w1
      generalize encRt r = Y at *
      generalize encRt q = Z at *
      generalize PyData.list (rs.map encRt) = X at *
      generalize parI rs o = a at *
      generalize parI rs m = b at *
      by_cases c1 : o < m
      · by_cases c2 : a = b
        · simp [c1, c2, ix, ix2, i0, i2, hl]
        · simp [c1, c2, ix, ix2, i0, i2, hl]
      · simp [c1]
    rw [List.map_cons, forF]
    show (match Pl.R.ok (eRv rs k s F (some (.d (.int o))) (some (.d (.int m)))) with | Pl.R.ok ρ1 => (rivals_w1 ρ1 >>= _) | _ => Pl.R.bad) = _
    unfold rivB
    rw [List.any_cons]
    simp only [e]
    cases c : (decide (o < m) && decide (parI rs o = parI rs m)) with
    | true => rfl
    | false =>
      rw [Bool.false_or]
      exact ih
theorem riv_out {rs : List Rt} (h : RtsOk rs) (k : Int) (h0 : 0 ≤ k) (h1 : k < rs.length) : ∀ (u : List Int) (s : SV) (F : List Int), ILs (lineR rs k) s → (∀ o ∈ u, 0 < o ∧ o < rs.length) → F.length + u.length ≤ 100 → ∃ s', ILs (lineR rs k) s' ∧ forF (setD 4) rivals_w2 (u.map PyData.int) (eRv rs k s F none none) = .ok (.nx (eRv rs k s' (F ++ u.filter (rivB rs (lineR rs k))) none none))
  | [], s, F, hs, _, _ => ⟨s, hs, by simp [forF]⟩
  | o :: u, s, F, hs, hu, hl => by
    rw [List.length_cons] at hl
    obtain ⟨o0, o1⟩ := hu o List.mem_cons_self
    have a := riv_in h k (.d (.list ((lineR rs k).map PyData.int))) F o o0 o1 (by omega) (lineR rs k) (line_mem h k.toNat k (Nat.le_refl _) h0 h1)
    obtain ⟨s', hs', ih⟩ := riv_out h k h0 h1 u (.d (.list ((lineR rs k).map PyData.int))) (if rivB rs (lineR rs k) o = true then F ++ [o] else F) (.inr rfl) (fun x hx => hu x (List.mem_cons_of_mem _ hx)) (by
      split
      · rw [List.length_append]; simp; omega
      · omega)
    refine ⟨s', hs', ?_⟩
    have e : rivals_w2 (eRv rs k s F (some (.d (.int o))) none) = .ok (.nx (eRv rs k (.d (.list ((lineR rs k).map PyData.int))) (if rivB rs (lineR rs k) o = true then F ++ [o] else F) none none)) := by
      unfold rivals_w2
      refine kill_nx (ρ1 := eRv rs k (.d (.list ((lineR rs k).map PyData.int))) (if rivB rs (lineR rs k) o = true then F ++ [o] else F) (some (.d (.int o))) none) ?_ rfl
      rw [frzS_ap]
      rcases hs with rfl | rfl
      · exact forS_lst (ρ := eRv rs k (.d (.list ((lineR rs k).map PyData.int))) F (some (.d (.int o))) none) rfl a
      · exact forS_lst (ρ := eRv rs k (.d (.list ((lineR rs k).map PyData.int))) F (some (.d (.int o))) none) rfl a
    rw [List.map_cons, forF]
    show (match Pl.R.ok (eRv rs k s F (some (.d (.int o))) none) with | Pl.R.ok ρ1 => (rivals_w2 ρ1 >>= _) | _ => Pl.R.bad) = _
    simp only [e, ok_bind]
    rw [ih, List.filter_cons]
    cases rivB rs (lineR rs k) o with
    | true => rw [if_pos rfl, if_pos rfl, List.append_assoc]; rfl
    | false => rw [if_neg (by decide), if_neg (by decide)]
theorem rivals_ok {rs : List Rt} (h : RtsOk rs) (k : Int) (h0 : 0 ≤ k) (h1 : k < rs.length) : rivals_f [.list (rs.map encRt), .int k] = .ok (.ol ((rivR rs k).map PyData.int)) := by
  have hle := h.le
  have a := lineage_ok h k h0 h1
  have hu : ∀ o ∈ irng 1 rs.length, 0 < o ∧ o < rs.length := fun o ho => by have := irng_mem ho; omega
  obtain ⟨s', _, lp⟩ := riv_out h k h0 h1 (irng 1 rs.length) (.ol ((lineR rs k).map PyData.int)) [] (.inl rfl) hu (by rw [irng_len]; simp; omega)
  rw [← rng_irng] at lp
  have hb : ∀ ρ, ρ = [some (.d (.list (rs.map encRt))), some (.d (.int k)), none, none, none, none] → rivals_b ρ = .ok (.rt (.ol ((rivR rs k).map PyData.int))) := by
    rintro _ rfl
    unfold rivals_b
    refine seq_nx (asg_nx (r := .ol ((lineR rs k).map PyData.int)) (by
      generalize rs.map encRt = X at *
      simp [a]) rfl) (seq_nx (asg_nx (r := .ol []) rfl rfl) (seq_nx (ρ1 := eRv rs k s' ([] ++ (irng 1 rs.length).filter (rivB rs (lineR rs k))) none none) ?_ rfl))
    exact forS_rng2 (ρ := eRv rs k (.ol ((lineR rs k).map PyData.int)) [] none none) (i := 1) (j := rs.length) (by simp) (by simp) okR_1 (okR_of (by omega) (by omega)) lp
  exact runB_rt (hb _ rfl) rfl
def pastB (rs : List Rt) (line riv : List Int) (l : Lab) : Bool := (line.all fun k => mAt rs k l) && !(riv.any fun k => mAt rs k l)
theorem gets_past_ok {rs : List Rt} (line riv : List Int) (l : Lab) (h1 : ∀ k ∈ line, 0 ≤ k ∧ k < rs.length) (h2 : ∀ k ∈ riv, 0 ≤ k ∧ k < rs.length) : gets_past_f [.list (rs.map encRt), .list (line.map PyData.int), .list (riv.map PyData.int), encB l] = .ok (.d (.bool (pastB rs line riv l))) := by
  have st : ∀ k : Int, 0 ≤ k ∧ k < rs.length → (tru (callF 2 matches_all_f (conA (bin ixS (bin ixS (peek 0) (peek 4)) (kon (.int 1))) (conA (getV 3) nilA)))) [some (.d (.list (rs.map encRt))), some (.d (.list (line.map PyData.int))), some (.d (.list (riv.map PyData.int))), some (.d (encB l)), some (.d (.int k))] = .ok (mAt rs k l) := fun k hk => by
    obtain ⟨r, g, ix, ma⟩ := rt_at hk.1 hk.2
    have i1 : ixS (.d (encRt r)) (.d (.int 1)) = .ok (.d (.tuple (r.ms.map encMt))) := rfl
    have m := matches_all_ok (.tuple (r.ms.map encMt)) r.ms l (.inl rfl)
    rw [← ma l] at m
    generalize encRt r = Y at *
    generalize PyData.list (rs.map encRt) = X at *
    generalize encB l = B at *
    generalize PyData.tuple (r.ms.map encMt) = M at *
    simp [ix, i1, m]
  have p1 := forF_all PyData.int (fun k => mAt rs k l) (.d (.bool false)) (k := setD 4) (b := gets_past_w1) (ρ0 := [some (.d (.list (rs.map encRt))), some (.d (.list (line.map PyData.int))), some (.d (.list (riv.map PyData.int))), some (.d (encB l)), none]) line fun k hk => ⟨_, rfl, by
    show gets_past_w1 [some (.d (.list (rs.map encRt))), some (.d (.list (line.map PyData.int))), some (.d (.list (riv.map PyData.int))), some (.d (encB l)), some (.d (.int k))] = _
    unfold gets_past_w1
    rw [kill_ap, ifS_ap, notT_ap, st k (h1 k hk)]
    cases mAt rs k l <;> rfl⟩
  have p2 := forF_any PyData.int (fun k => mAt rs k l) (.d (.bool false)) (k := setD 4) (b := gets_past_w2) (ρ0 := [some (.d (.list (rs.map encRt))), some (.d (.list (line.map PyData.int))), some (.d (.list (riv.map PyData.int))), some (.d (encB l)), none]) riv fun k hk => ⟨_, rfl, by
    show gets_past_w2 [some (.d (.list (rs.map encRt))), some (.d (.list (line.map PyData.int))), some (.d (.list (riv.map PyData.int))), some (.d (encB l)), some (.d (.int k))] = _
    unfold gets_past_w2
    rw [kill_ap, ifS_ap, st k (h2 k hk)]
    cases mAt rs k l <;> rfl⟩
  have hb : ∀ ρ, ρ = [some (.d (.list (rs.map encRt))), some (.d (.list (line.map PyData.int))), some (.d (.list (riv.map PyData.int))), some (.d (encB l)), none] → gets_past_b ρ = .ok (.rt (.d (.bool (pastB rs line riv l)))) := by
    rintro _ rfl
    have q1 := forS_lst (fa := getV 1) (ρ := [some (.d (.list (rs.map encRt))), some (.d (.list (line.map PyData.int))), some (.d (.list (riv.map PyData.int))), some (.d (encB l)), none]) rfl p1
    have q2 := forS_lst (fa := getV 2) (ρ := [some (.d (.list (rs.map encRt))), some (.d (.list (line.map PyData.int))), some (.d (.list (riv.map PyData.int))), some (.d (encB l)), none]) rfl p2
    unfold gets_past_b pastB
    cases c1 : line.all fun k => mAt rs k l with
    | false => rw [c1] at q1; exact seq_rt q1
    | true =>
      rw [c1] at q1
      refine seq_nx q1 ?_
      cases c2 : riv.any fun k => mAt rs k l with
      | true => rw [c2] at q2; exact seq_rt q2
      | false => rw [c2] at q2; exact seq_nx q2 rfl
  exact runB_rt (hb _ rfl) rfl
def fewR (kept : List Int) (r : Int) : List Int := kept.filter fun o => !decide (o = r)
def blkStep (rs : List Rt) (L : List Lab) (line : List Int) (kept : List Int) (r : Int) : List Int := if L.any (pastB rs line (fewR kept r)) = true then kept else fewR kept r
def blkR (rs : List Rt) (L : List Lab) (k : Int) : List Int := (rivR rs k).foldl (blkStep rs L (lineR rs k)) (rivR rs k)
abbrev eBk (rs : List Rt) (L : List Lab) (k : Int) (s3 s4 : SV) (r f : Option SV) : En := [some (.d (.list (rs.map encRt))), some (.d (.list (L.map encB))), some (.d (.int k)), some s3, some s4, r, f, none, none]
theorem few_sub {kept : List Int} {r x : Int} (h : x ∈ fewR kept r) : x ∈ kept := (List.mem_filter.mp h).1
theorem step_sub {rs : List Rt} {L : List Lab} {line kept : List Int} {r x : Int} (h : x ∈ blkStep rs L line kept r) : x ∈ kept := by
  unfold blkStep at h
  split at h
  · exact h
  · exact few_sub h
theorem step_len {rs : List Rt} {L : List Lab} {line kept : List Int} {r : Int} : (blkStep rs L line kept r).length ≤ kept.length := by
  unfold blkStep
  split
  · exact Nat.le_refl _
  · exact List.length_filter_le _ _
theorem few_lc (i j t : Nat) (kept : List Int) (r : Int) (ρ : En) (hi : ρ[i]? = some (some (.d (.list (kept.map PyData.int))))) (hr : ∀ x, ((wipeE ρ [j]).set j (some (.d x)))[t]? = some (some (.d (.int r)))) (hj : j < (wipeE ρ [j]).length) (hl : kept.length < sizeLine) :
    lcE (seqD (getV i)) (setD j) (asT (bin (eqS true) (peek j) (peek t))) (getV j) [j] ρ = .ok (.ol ((fewR kept r).map PyData.int)) := by
  refine lcE_mapα PyData.int (fun o => !decide (o = r)) PyData.int kept (seqD_l (by rw [getV_ap, hi])) hl fun o _ => ⟨_, rfl, ?_, fun _ => ⟨.d (.int o), ?_, rfl⟩⟩
  · have h5 := hr (.int o)
    have h7 : ((wipeE ρ [j]).set j (some (.d (.int o))))[j]? = some (some (.d (.int o))) := List.getElem?_set_self hj
    generalize (wipeE ρ [j]).set j (some (.d (.int o))) = ρ1 at *
    simp [h5, h7]
  · have h7 : ((wipeE ρ [j]).set j (some (.d (.int o))))[j]? = some (some (.d (.int o))) := List.getElem?_set_self hj
    rw [getV_ap, h7]
theorem blk_w1 {rs : List Rt} (L : List Lab) (k : Int) (line kept : List Int) (s3 s4 : SV) (r : Int) (h3 : ILs line s3) (h4 : ILs kept s4) (h1 : ∀ k ∈ line, 0 ≤ k ∧ k < rs.length) (h2 : ∀ k ∈ kept, 0 ≤ k ∧ k < rs.length) (hl : kept.length ≤ 100) (hL : L.length ≤ 300) :
    blockers_w1 (eBk rs L k s3 s4 (some (.d (.int r))) none) = .ok (.nx (eBk rs L k (.d (.list (line.map PyData.int))) (.d (.list ((blkStep rs L line kept r).map PyData.int))) none none)) := by
  have hz := line16
  unfold blockers_w1
  refine kill_nx (ρ1 := eBk rs L k (.d (.list (line.map PyData.int))) (.d (.list ((blkStep rs L line kept r).map PyData.int))) (some (.d (.int r))) (some (.d (.list ((fewR kept r).map PyData.int))))) ?_ rfl
  refine seq_nx (ρ1 := eBk rs L k s3 (.d (.list (kept.map PyData.int))) (some (.d (.int r))) (some (.ol ((fewR kept r).map PyData.int)))) ?_ ?_
  · rw [frzS_ap]
    have fz : [4].foldl (fun ρ i => frzE i ρ) (eBk rs L k s3 s4 (some (.d (.int r))) none) = eBk rs L k s3 (.d (.list (kept.map PyData.int))) (some (.d (.int r))) none := by
      rcases h4 with rfl | rfl <;> rfl
    rw [fz]
    exact asg_nx (few_lc 4 7 5 kept r (eBk rs L k s3 (.d (.list (kept.map PyData.int))) (some (.d (.int r))) none) rfl (fun _ => rfl) (by show 7 < 9; omega) (by omega)) rfl
  · rw [frzS_ap]
    have fz : [3, 6].foldl (fun ρ i => frzE i ρ) (eBk rs L k s3 (.d (.list (kept.map PyData.int))) (some (.d (.int r))) (some (.ol ((fewR kept r).map PyData.int)))) = eBk rs L k (.d (.list (line.map PyData.int))) (.d (.list (kept.map PyData.int))) (some (.d (.int r))) (some (.d (.list ((fewR kept r).map PyData.int)))) := by
      rcases h3 with rfl | rfl <;> rfl
    rw [fz]
    have z := lcE_allα encB (fun l => .bool (pastB rs line (fewR kept r) l)) (fi := seqD (getV 1)) (k := setD 8) (e := callF 4 gets_past_f (conA (getV 0) (conA (getV 3) (conA (getV 6) (conA (getV 8) nilA))))) (vs := [8]) (ρ := eBk rs L k (.d (.list (line.map PyData.int))) (.d (.list (kept.map PyData.int))) (some (.d (.int r))) (some (.d (.list ((fewR kept r).map PyData.int))))) L rfl (by omega) fun l _ => ⟨[some (.d (.list (rs.map encRt))), some (.d (.list (L.map encB))), some (.d (.int k)), some (.d (.list (line.map PyData.int))), some (.d (.list (kept.map PyData.int))), some (.d (.int r)), some (.d (.list ((fewR kept r).map PyData.int))), none, some (.d (encB l))], rfl, .d (.bool (pastB rs line (fewR kept r) l)), by
        have g := gets_past_ok line (fewR kept r) l h1 fun x hx => h2 x (few_sub hx)
        generalize pastB rs line (fewR kept r) l = b at *
        generalize encB l = B at *
        generalize rs.map encRt = X at *
        generalize line.map PyData.int = X2 at *
        generalize (fewR kept r).map PyData.int = X3 at *
        simp [g], rfl⟩
    have an : ((L.map fun l => pastB rs line (fewR kept r) l)).any id = L.any (pastB rs line (fewR kept r)) := by rw [List.any_map]; rfl
    have tt : tru (callB anyS (conB (lcE (seqD (getV 1)) (setD 8) yesT (callF 4 gets_past_f (conA (getV 0) (conA (getV 3) (conA (getV 6) (conA (getV 8) nilA))))) [8]) nilB)) (eBk rs L k (.d (.list (line.map PyData.int))) (.d (.list (kept.map PyData.int))) (some (.d (.int r))) (some (.d (.list ((fewR kept r).map PyData.int))))) = .ok (L.any (pastB rs line (fewR kept r))) := by
      rw [tru_ap, callB_ap, conB_ap, z, ok_bind, nilB_ap, ok_bind, ok_bind]
      have am : (L.map fun l => PyData.bool (pastB rs line (fewR kept r) l)) = (L.map fun l => pastB rs line (fewR kept r) l).map PyData.bool := by rw [List.map_map]; rfl
      rw [am, anyS_ol, an]; rfl
    rw [ifS_ap, notT_ap, tt]
    unfold blkStep
    cases L.any (pastB rs line (fewR kept r)) <;> rfl
theorem blk_loop {rs : List Rt} (L : List Lab) (k : Int) (line : List Int) (h1 : ∀ k ∈ line, 0 ≤ k ∧ k < rs.length) (hL : L.length ≤ 300) : ∀ (u kept : List Int) (s3 s4 : SV), ILs line s3 → ILs kept s4 → (∀ k ∈ kept, 0 ≤ k ∧ k < rs.length) → kept.length ≤ 100 → ∃ s3' s4', ILs (u.foldl (blkStep rs L line) kept) s4' ∧ forF (setD 5) blockers_w1 (u.map PyData.int) (eBk rs L k s3 s4 none none) = .ok (.nx (eBk rs L k s3' s4' none none))
  | [], kept, s3, s4, _, h4, _, _ => ⟨s3, s4, h4, rfl⟩
  | r :: u, kept, s3, s4, h3, h4, h2, hl => by
    have e := blk_w1 L k line kept s3 s4 r h3 h4 h1 h2 hl hL
    obtain ⟨s3', s4', a, ih⟩ := blk_loop L k line h1 hL u (blkStep rs L line kept r) (.d (.list (line.map PyData.int))) (.d (.list ((blkStep rs L line kept r).map PyData.int))) (.inr rfl) (.inr rfl) (fun x hx => h2 x (step_sub hx)) (Nat.le_trans step_len hl)
    refine ⟨s3', s4', a, ?_⟩
    rw [List.map_cons, forF]
    show (match Pl.R.ok (eBk rs L k s3 s4 (some (.d (.int r))) none) with | Pl.R.ok ρ1 => (blockers_w1 ρ1 >>= _) | _ => Pl.R.bad) = _
    simp only [e, ok_bind]
    exact ih
theorem riv_mem {rs : List Rt} {k x : Int} (h : x ∈ rivR rs k) : 0 < x ∧ x < rs.length := by
  have := irng_mem (List.mem_filter.mp h).1
  omega
theorem riv_len {rs : List Rt} {k : Int} (h : RtsOk rs) : (rivR rs k).length ≤ 6 := by
  have a : (rivR rs k).length ≤ (irng 1 rs.length).length := List.length_filter_le _ _
  have := h.le
  rw [irng_len] at a; omega
theorem blockers_ok {rs : List Rt} (h : RtsOk rs) (L : List Lab) (k : Int) (h0 : 0 ≤ k) (h1 : k < rs.length) (hL : L.length ≤ 300) : ∃ s, ILs (blkR rs L k) s ∧ blockers_f [.list (rs.map encRt), .list (L.map encB), .int k] = .ok s := by
  have a := lineage_ok h k h0 h1
  have b := rivals_ok h k h0 h1
  obtain ⟨s3, s4, c, lp⟩ := blk_loop (rs := rs) L k (lineR rs k) (fun x hx => by have := line_mem h k.toNat k (Nat.le_refl _) h0 h1 x hx; omega) hL (rivR rs k) (rivR rs k) (.ol ((lineR rs k).map PyData.int)) (.ol ((rivR rs k).map PyData.int)) (.inl rfl) (.inl rfl) (fun x hx => by have := riv_mem (rs := rs) (k := k) hx; omega) (by have := riv_len (k := k) h; omega)
  refine ⟨s4, c, ?_⟩
  have hb : ∀ ρ, ρ = [some (.d (.list (rs.map encRt))), some (.d (.list (L.map encB))), some (.d (.int k)), none, none, none, none, none, none] → blockers_b ρ = .ok (.rt s4) := by
    rintro _ rfl
    unfold blockers_b
    refine seq_nx (asg_nx (r := .ol ((lineR rs k).map PyData.int)) (by
      generalize rs.map encRt = X at *
      generalize L.map encB = Y at *
      simp [a]) rfl) (seq_nx (asg_nx (r := .ol ((rivR rs k).map PyData.int)) (by
      generalize rs.map encRt = X at *
      generalize L.map encB = Y at *
      simp [b]) rfl) (seq_nx (ρ1 := eBk rs L k s3 s4 none none) ?_ rfl))
    exact forS_ol (fa := callB listS (conB (peek 4) nilB)) (ρ := eBk rs L k (.ol ((lineR rs k).map PyData.int)) (.ol ((rivR rs k).map PyData.int)) none none) rfl lp
  exact runB_rt (hb _ rfl) rfl
/-! ### survey -/
def wayL (rs : List Rt) (l : Lab) : List Int := 0 :: wayR rs l rs.length 0
theorem way_okL (rs : List Rt) (l : Lab) (h : RtsOk rs) : way_f [.list (rs.map encRt), encB l] = .ok (.ol ((wayL rs l).map PyData.int)) := by
  have a := way_ok rs l (by have := h.le; omega)
  rw [way_same] at a
  exact a
def endB (rs : List Rt) (k : Int) (l : Lab) : Bool := decide (endR rs l = k)
def thrB (rs : List Rt) (k : Int) (l : Lab) : Bool := decide (k ∈ wayL rs l)
def blkO (rs : List Rt) (L : List Lab) (k : Int) : List Int := if (L.find? (thrB rs k)).isNone = true then blkR rs L k else []
def survRow (rs : List Rt) (L : List Lab) (k : Int) : D := .tuple [labO (L.find? (endB rs k)), labO (L.find? (thrB rs k)), .list ((blkO rs L k).map PyData.int)]
abbrev eSv (rs : List Rt) (MU : D) (a2 : SV) (a3 : Option SV) (a4 : SV) (out : List D) (k : Option SV) (e t w b : Option SV) : En := [some (.d (.list (rs.map encRt))), some (.d MU), some a2, a3, some a4, some (.ol out), k, e, t, w, b]
def wayD (rs : List Rt) (l : Lab) : D := .list ((wayL rs l).map PyData.int)
theorem sv_w1 (rs : List Rt) (MU : D) (a2 a4 : SV) (out : List D) (k : Int) (o p : Option Lab) (l : Lab) (h : RtsOk rs) : survey_w1 (eSv rs MU a2 (some (.d (encB l))) a4 out (some (.d (.int k))) (some (.d (labO o))) (some (.d (labO p))) (some (.d (wayD rs l))) none) = .ok (.nx (eSv rs MU a2 none a4 out (some (.d (.int k))) (some (.d (labO (o.or (if endB rs k l = true then some l else none))))) (some (.d (labO (p.or (if thrB rs k l = true then some l else none))))) none none)) := by
  obtain ⟨⟨P, hP⟩, _⟩ := end_snoc rs l h.ps
  have la := last_int P (endR rs l)
  have hw : wayL rs l = P ++ [endR rs l] := hP
  have ix : ixS (.d (wayD rs l)) (.d (.int (-1))) = .ok (.d (.int (endR rs l))) := by unfold wayD; rw [hw, ixS_l, la]
  have mem : inS false (.d (.int k)) (.d (wayD rs l)) = .ok (.d (.bool (thrB rs k l))) := inS_intsD false k (wayL rs l)
  have isn : ∀ q : Option Lab, isnS false (.d (labO q)) (.d .none) = .ok (.d (.bool q.isNone)) := fun q => by cases q <;> rfl
  have eb : decide (endR rs l = k) = endB rs k l := rfl
  show survey_w1 [some (.d (.list (rs.map encRt))), some (.d MU), some a2, some (.d (encB l)), some a4, some (.ol out), some (.d (.int k)), some (.d (labO o)), some (.d (labO p)), some (.d (wayD rs l)), none] = .ok (.nx [some (.d (.list (rs.map encRt))), some (.d MU), some a2, none, some a4, some (.ol out), some (.d (.int k)), some (.d (labO (o.or (if endB rs k l = true then some l else none)))), some (.d (labO (p.or (if thrB rs k l = true then some l else none)))), none, none])
  have i1 := isn o
  have i2 := isn p
  have e1 : labO (o.or (if endB rs k l = true then some l else none)) = if o.isNone = true ∧ endB rs k l = true then encB l else labO o := by
    cases o <;> cases endB rs k l <;> rfl
  have e2 : labO (p.or (if thrB rs k l = true then some l else none)) = if p.isNone = true ∧ thrB rs k l = true then encB l else labO p := by
    cases p <;> cases thrB rs k l <;> rfl
  rw [e1, e2]
  generalize thrB rs k l = tb at *
  generalize encB l = B at *
  generalize wayD rs l = W at *
  generalize rs.map encRt = X at *
  generalize labO o = O1 at *
  generalize labO p = O2 at *
  generalize o.isNone = n1 at *
  generalize p.isNone = n2 at *
  unfold survey_w1
  by_cases c : endR rs l = k
  · have ce : endB rs k l = true := by rw [← eb]; exact decide_eq_true c
    rw [ce]
    cases n1 <;> cases n2 <;> cases tb <;> simp [i1, i2, ix, mem, c]
  · have ce : endB rs k l = false := by rw [← eb]; exact decide_eq_false c
    rw [ce]
    cases n1 <;> cases n2 <;> cases tb <;> simp [i1, i2, ix, mem, c]
theorem sv_loop1 (rs : List Rt) (MU : D) (a2 a4 : SV) (out : List D) (k : Int) (h : RtsOk rs) : ∀ (u : List Lab) (o p : Option Lab), forF (tupG 2 (gsC (setD 3) (gsC (setD 9) gsN))) survey_w1 (zipL (u.map encB) (u.map (wayD rs))) (eSv rs MU a2 none a4 out (some (.d (.int k))) (some (.d (labO o))) (some (.d (labO p))) none none) = .ok (.nx (eSv rs MU a2 none a4 out (some (.d (.int k))) (some (.d (labO (o.or (u.find? (endB rs k)))))) (some (.d (labO (p.or (u.find? (thrB rs k)))))) none none))
  | [], o, p => by
    rw [List.find?_nil, List.find?_nil, Option.or_none, Option.or_none]; rfl
  | l :: u, o, p => by
    have e := sv_w1 rs MU a2 a4 out k o p l h
    have ih := sv_loop1 rs MU a2 a4 out k h u (o.or (if endB rs k l = true then some l else none)) (p.or (if thrB rs k l = true then some l else none))
    show forF _ _ (.tuple [encB l, wayD rs l] :: zipL (u.map encB) (u.map (wayD rs))) _ = _
    rw [forF]
    show (match Pl.R.ok (eSv rs MU a2 (some (.d (encB l))) a4 out (some (.d (.int k))) (some (.d (labO o))) (some (.d (labO p))) (some (.d (wayD rs l))) none) with | Pl.R.ok ρ1 => (survey_w1 ρ1 >>= _) | _ => Pl.R.bad) = _
    simp only [e, ok_bind]
    rw [ih, List.find?_cons, List.find?_cons]
    have cc : ∀ (q : Option Lab) (b : Bool) (f : Option Lab), (q.or (if b = true then some l else none)).or f = q.or (match b with | true => some l | false => f) := fun q b f => by cases q <;> cases b <;> rfl
    rw [cc, cc]
    cases endB rs k l <;> cases thrB rs k l <;> rfl
def LLs (L : List Lab) (s : SV) : Prop := s = .ol (L.map encB) ∨ s = .d (.list (L.map encB))
def WLs (rs : List Rt) (L : List Lab) (s : SV) : Prop := s = .ol (L.map (wayD rs)) ∨ s = .d (.list (L.map (wayD rs)))
theorem sv_w2 (rs : List Rt) (MU : D) (L : List Lab) (a2 a4 : SV) (out : List D) (k : Int) (h : RtsOk rs) (h0 : 0 ≤ k) (h1 : k < rs.length) (hL : L.length ≤ 300) (h2 : LLs L a2) (h4 : WLs rs L a4) (ho : out.length ≤ 100) : survey_w2 (eSv rs MU a2 none a4 out (some (.d (.int k))) none none none none) = .ok (.nx (eSv rs MU (.d (.list (L.map encB))) none (.d (.list (L.map (wayD rs)))) (out ++ [survRow rs L k]) none none none none none)) := by
  have hz := line16
  have hol : out.length < sizeLine := by omega
  unfold survey_w2
  refine kill_nx (ρ1 := eSv rs MU (.d (.list (L.map encB))) none (.d (.list (L.map (wayD rs)))) (out ++ [survRow rs L k]) (some (.d (.int k))) (some (.d (labO (L.find? (endB rs k))))) (some (.d (labO (L.find? (thrB rs k))))) none (some (.d (.list ((blkO rs L k).map PyData.int))))) ?_ rfl
  refine seq_nx (asg_nx (r := .d .none) rfl rfl) (seq_nx (asg_nx (r := .d .none) rfl rfl) ?_)
  have lp := sv_loop1 rs MU (.d (.list (L.map encB))) (.d (.list (L.map (wayD rs)))) out k h L none none
  rw [Option.none_or, Option.none_or] at lp
  refine seq_nx (ρ1 := eSv rs MU (.d (.list (L.map encB))) none (.d (.list (L.map (wayD rs)))) out (some (.d (.int k))) (some (.d (labO (L.find? (endB rs k))))) (some (.d (labO (L.find? (thrB rs k))))) none none) ?_ ?_
  · rw [frzS_ap]
    have fz : [2, 4].foldl (fun ρ i => frzE i ρ) (eSv rs MU a2 none a4 out (some (.d (.int k))) (some (.d .none)) (some (.d .none)) none none) = eSv rs MU (.d (.list (L.map encB))) none (.d (.list (L.map (wayD rs)))) out (some (.d (.int k))) (some (.d .none)) (some (.d .none)) none none := by
      rcases h2 with rfl | rfl <;> rcases h4 with rfl | rfl <;> rfl
    show forS _ _ _ ([2, 4].foldl (fun ρ i => frzE i ρ) (eSv rs MU a2 none a4 out (some (.d (.int k))) (some (.d .none)) (some (.d .none)) none none)) = _
    rw [fz, forS_ap]
    exact lp
  refine seq_nx (asg_nx (r := .ol []) rfl rfl) ?_
  obtain ⟨s, hs, bk⟩ := blockers_ok h L k h0 h1 hL
  have row : ∀ s, ILs (blkO rs L k) s → frzS [10] (appS 5 (dispT (conA (getV 7) (conA (getV 8) (conA (getV 10) nilA))))) (eSv rs MU (.d (.list (L.map encB))) none (.d (.list (L.map (wayD rs)))) out (some (.d (.int k))) (some (.d (labO (L.find? (endB rs k))))) (some (.d (labO (L.find? (thrB rs k))))) none (some s)) = .ok (.nx (eSv rs MU (.d (.list (L.map encB))) none (.d (.list (L.map (wayD rs)))) (out ++ [survRow rs L k]) (some (.d (.int k))) (some (.d (labO (L.find? (endB rs k))))) (some (.d (labO (L.find? (thrB rs k))))) none (some (.d (.list ((blkO rs L k).map PyData.int)))))) := fun s hs => by
    rw [frzS_ap]
    have fz : [10].foldl (fun ρ i => frzE i ρ) (eSv rs MU (.d (.list (L.map encB))) none (.d (.list (L.map (wayD rs)))) out (some (.d (.int k))) (some (.d (labO (L.find? (endB rs k))))) (some (.d (labO (L.find? (thrB rs k))))) none (some s)) = [some (.d (.list (rs.map encRt))), some (.d MU), some (.d (.list (L.map encB))), none, some (.d (.list (L.map (wayD rs)))), some (.ol out), some (.d (.int k)), some (.d (labO (L.find? (endB rs k)))), some (.d (labO (L.find? (thrB rs k)))), none, some (.d (.list ((blkO rs L k).map PyData.int)))] := by
      rcases hs with rfl | rfl <;> rfl
    rw [fz]
    show _ = Pl.R.ok (Fl.nx [some (.d (.list (rs.map encRt))), some (.d MU), some (.d (.list (L.map encB))), none, some (.d (.list (L.map (wayD rs)))), some (.ol (out ++ [.tuple [labO (L.find? (endB rs k)), labO (L.find? (thrB rs k)), .list ((blkO rs L k).map PyData.int)]])), some (.d (.int k)), some (.d (labO (L.find? (endB rs k)))), some (.d (labO (L.find? (thrB rs k)))), none, some (.d (.list ((blkO rs L k).map PyData.int)))])
    generalize labO (L.find? (endB rs k)) = x1
    generalize labO (L.find? (thrB rs k)) = x2
    generalize (blkO rs L k).map PyData.int = x3
    generalize rs.map encRt = x4
    generalize L.map encB = x5
    generalize L.map (wayD rs) = x6
    simp [hol]
  cases c : L.find? (thrB rs k) with
  | some l =>
    rw [c] at row
    have hbo : blkO rs L k = [] := by unfold blkO; rw [c]; rfl
    refine seq_nx (ρ1 := eSv rs MU (.d (.list (L.map encB))) none (.d (.list (L.map (wayD rs)))) out (some (.d (.int k))) (some (.d (labO (L.find? (endB rs k))))) (some (.d (labO (some l)))) none (some (.ol []))) rfl ?_
    exact row (.ol []) (by rw [hbo]; exact .inl rfl)
  | none =>
    rw [c] at row
    have hbo : blkO rs L k = blkR rs L k := by unfold blkO; rw [c]; rfl
    refine seq_nx (ρ1 := eSv rs MU (.d (.list (L.map encB))) none (.d (.list (L.map (wayD rs)))) out (some (.d (.int k))) (some (.d (labO (L.find? (endB rs k))))) (some (.d (labO none))) none (some s)) ?_ ?_
    · rw [ifS_ap]
      show (Pl.R.ok true >>= _) = _
      rw [ok_bind, if_pos rfl, frzS_ap]
      have hnp : s.npin = true := by rcases hs with rfl | rfl <;> rfl
      refine asg_nx (ρ := [some (.d (.list (rs.map encRt))), some (.d MU), some (.d (.list (L.map encB))), none, some (.d (.list (L.map (wayD rs)))), some (.ol out), some (.d (.int k)), some (.d (labO (L.find? (endB rs k)))), some (.d (labO none)), none, some (.ol [])]) (r := s) ?_ rfl hnp
      generalize rs.map encRt = x4 at *
      generalize L.map encB = x5 at *
      simp [bk]
    · exact row s (by rw [hbo]; exact hs)
theorem sv_loop2 (rs : List Rt) (MU : D) (L : List Lab) (h : RtsOk rs) (hL : L.length ≤ 300) : ∀ (u : List Int) (a2 a4 : SV) (out : List D), (∀ k ∈ u, 0 ≤ k ∧ k < rs.length) → LLs L a2 → WLs rs L a4 → out.length + u.length ≤ 100 → ∃ a2' a4', forF (setD 6) survey_w2 (u.map PyData.int) (eSv rs MU a2 none a4 out none none none none none) = .ok (.nx (eSv rs MU a2' none a4' (out ++ u.map (survRow rs L)) none none none none none))
  | [], a2, a4, out, _, _, _, _ => ⟨a2, a4, by simp [forF]⟩
  | k :: u, a2, a4, out, hu, h2, h4, hl => by
    rw [List.length_cons] at hl
    obtain ⟨k0, k1⟩ := hu k List.mem_cons_self
    have e := sv_w2 rs MU L a2 a4 out k h k0 k1 hL h2 h4 (by omega)
    obtain ⟨a2', a4', ih⟩ := sv_loop2 rs MU L h hL u (.d (.list (L.map encB))) (.d (.list (L.map (wayD rs)))) (out ++ [survRow rs L k]) (fun x hx => hu x (List.mem_cons_of_mem _ hx)) (.inr rfl) (.inr rfl) (by simp; omega)
    refine ⟨a2', a4', ?_⟩
    rw [List.map_cons, forF]
    show (match Pl.R.ok (eSv rs MU a2 none a4 out (some (.d (.int k))) none none none none) with | Pl.R.ok ρ1 => (survey_w2 ρ1 >>= _) | _ => Pl.R.bad) = _
    simp only [e, ok_bind]
    rw [ih, List.map_cons, List.append_assoc]; rfl
theorem survey_ok (rs : List Rt) (mu : List Mat) (h : RtsOk rs) (hm : mu.length ≤ 2) (hv : ∀ m ∈ mu, m.vs.length ≤ 2) : survey_f [.list (rs.map encRt), .list (mu.map encMt)] = (match consP mu (rs.flatMap (·.ms)) with | none => .ex 0 [] | some L => .ok (.ol ((irng 0 rs.length).map (survRow rs L)))) := by
  have hz := line16
  obtain ⟨f1, f2⟩ := h.flat
  have hle := h.le
  have m1 := matchers_of_ok rs (by omega)
  have co := considered_ok mu (rs.flatMap (·.ms)) (by rw [List.length_append]; omega) fun m hm => by
    rcases List.mem_append.mp hm with z | z
    · have := hv m z; omega
    · have := f2 m z; omega
  have e0 : callF 2 considered_f (conA (getV 1) (conA (callF 1 matchers_of_f (conA (getV 0) nilA)) nilA)) [some (.d (.list (rs.map encRt))), some (.d (.list (mu.map encMt))), none, none, none, none, none, none, none, none, none] = considered_f [.list (mu.map encMt), .list ((rs.flatMap (·.ms)).map encMt)] := by
    generalize rs.map encRt = X at *
    generalize mu.map encMt = Y at *
    generalize (rs.flatMap (·.ms)).map encMt = Z at *
    simp [m1]
  cases q : consP mu (rs.flatMap (·.ms)) with
  | none =>
    rw [q] at co
    refine runB_ex ?_ rfl
    show survey_b [some (.d (.list (rs.map encRt))), some (.d (.list (mu.map encMt))), none, none, none, none, none, none, none, none, none] = _
    unfold survey_b
    rw [seqS_ap, asgS_ap, e0, co]; rfl
  | some L =>
    rw [q] at co
    have hL : L.length ≤ 300 := by
      unfold consP at q
      obtain ⟨L0, q0, rfl⟩ := Option.map_eq_some_iff.mp q
      obtain ⟨l1, _⟩ := samplesP_fact (mu ++ rs.flatMap (·.ms)) (by rw [List.length_append]; omega) L0 q0
      exact Nat.le_trans (List.length_filter_le _ _) l1
    refine runB_rt ?_ rfl
    show survey_b [some (.d (.list (rs.map encRt))), some (.d (.list (mu.map encMt))), none, none, none, none, none, none, none, none, none] = _
    unfold survey_b
    refine seq_nx (asg_nx (r := .ol (L.map encB)) (by rw [e0, co]) rfl) ?_
    have z := lcE_allα encB (wayD rs) (fi := seqD (getV 2)) (k := setD 3) (e := callF 2 way_f (conA (getV 0) (conA (getV 3) nilA))) (vs := [3]) (ρ := [some (.d (.list (rs.map encRt))), some (.d (.list (mu.map encMt))), some (.d (.list (L.map encB))), none, none, none, none, none, none, none, none]) L rfl (by omega) fun l _ => ⟨[some (.d (.list (rs.map encRt))), some (.d (.list (mu.map encMt))), some (.d (.list (L.map encB))), some (.d (encB l)), none, none, none, none, none, none, none], rfl, .ol ((wayL rs l).map PyData.int), by
      have w := way_okL rs l h
      generalize rs.map encRt = X at *
      generalize encB l = B at *
      generalize L.map encB = Y at *
      generalize (wayL rs l).map PyData.int = Z at *
      simp [w], rfl⟩
    refine seq_nx (ρ1 := [some (.d (.list (rs.map encRt))), some (.d (.list (mu.map encMt))), some (.d (.list (L.map encB))), none, some (.ol (L.map (wayD rs))), none, none, none, none, none, none]) ?_ ?_
    · rw [frzS_ap]
      exact asg_nx z rfl
    refine seq_nx (asg_nx (r := .ol []) rfl rfl) ?_
    obtain ⟨a2', a4', lp⟩ := sv_loop2 rs (.list (mu.map encMt)) L h hL (irng 0 rs.length) (.d (.list (L.map encB))) (.ol (L.map (wayD rs))) [] (fun k hk => by have := irng_mem hk; omega) (.inr rfl) (.inl rfl) (by rw [irng_len]; simp; omega)
    rw [← rng_irng, List.nil_append] at lp
    refine seq_nx (ρ1 := eSv rs (.list (mu.map encMt)) a2' none a4' ((irng 0 rs.length).map (survRow rs L)) none none none none none) ?_ rfl
    exact forS_rng1 (ρ := eSv rs (.list (mu.map encMt)) (.d (.list (L.map encB))) none (.ol (L.map (wayD rs))) [] none none none none none) (j := rs.length) (by simp) (okR_of (by omega) (by omega)) lp
/-! ### what the blockers are -/
theorem past_mono {rs : List Rt} {line r1 r2 : List Int} {l : Lab} (h : ∀ x ∈ r2, x ∈ r1) (h1 : pastB rs line r1 l = true) : pastB rs line r2 l = true := by
  unfold pastB at h1 ⊢
  rw [Bool.and_eq_true, Bool.not_eq_true', List.any_eq_false] at h1 ⊢
  exact ⟨h1.1, fun x hx => h1.2 x (h x hx)⟩
theorem any_mono {rs : List Rt} {L : List Lab} {line r1 r2 : List Int} (h : ∀ x ∈ r2, x ∈ r1) (h1 : L.any (pastB rs line r1) = true) : L.any (pastB rs line r2) = true := by
  obtain ⟨l, hl, hp⟩ := List.any_eq_true.mp h1
  exact List.any_eq_true.mpr ⟨l, hl, past_mono h hp⟩
theorem fold_sub {rs : List Rt} {L : List Lab} {line : List Int} : ∀ (u kept : List Int) (x : Int), x ∈ u.foldl (blkStep rs L line) kept → x ∈ kept
  | [], _, _, h => h
  | _ :: u, kept, x, h => step_sub (fold_sub u _ x h)
theorem fold_no {rs : List Rt} {L : List Lab} {line : List Int} : ∀ (u kept : List Int), L.any (pastB rs line kept) = false → L.any (pastB rs line (u.foldl (blkStep rs L line) kept)) = false
  | [], _, h => h
  | r :: u, kept, h => by
    rw [List.foldl_cons]
    refine fold_no u _ ?_
    unfold blkStep
    cases c : L.any (pastB rs line (fewR kept r)) with
    | true => exact h
    | false => exact c
theorem few_few {F kept : List Int} {r : Int} (h : ∀ x ∈ F, x ∈ kept) : ∀ x ∈ fewR F r, x ∈ fewR kept r := fun x hx => by
  unfold fewR at hx ⊢
  rw [List.mem_filter] at hx ⊢
  exact ⟨h x hx.1, hx.2⟩
theorem fold_need {rs : List Rt} {L : List Lab} {line : List Int} : ∀ (u kept : List Int) (j : Int), j ∈ u → j ∈ u.foldl (blkStep rs L line) kept → L.any (pastB rs line (fewR (u.foldl (blkStep rs L line) kept) j)) = true
  | [], _, _, h, _ => by cases h
  | r :: u, kept, j, h, hF => by
    rw [List.foldl_cons] at hF ⊢
    by_cases c : j ∈ u
    · exact fold_need u _ j c hF
    · have e : j = r := by
        rcases List.mem_cons.mp h with e | e
        · exact e
        · exact absurd e c
      subst e
      have hk := fold_sub u _ j hF
      have hs := fun x hx => fold_sub (rs := rs) (L := L) (line := line) u (blkStep rs L line kept j) x hx
      unfold blkStep at hk
      split at hk
      · rename_i ca
        exact any_mono (few_few fun x hx => step_sub (hs x hx)) ca
      · have := (List.mem_filter.mp hk).2
        simp at this
theorem riv_cons {rs : List Rt} {m : Int} {line : List Int} {o : Int} (h : rivB rs line o = true) : rivB rs (m :: line) o = true := by
  unfold rivB at h ⊢
  rw [List.any_cons, h, Bool.or_true]
theorem reach {rs : List Rt} (h : RtsOk rs) (l : Lab) : ∀ (n : Nat) (k : Int), k.toNat ≤ n → 0 ≤ k → k < rs.length → (∀ m ∈ lineR rs k, mAt rs m l = true) → (∀ o : Int, 0 < o → o < rs.length → rivB rs (lineR rs k) o = true → mAt rs o l = false) → ∃ P, wayL rs l = P ++ k :: wayR rs l rs.length k
  | n, k, hn, h0, h1, hl, hr => by
    by_cases c : k = 0
    · subst c; exact ⟨[], rfl⟩
    · obtain ⟨r, g, p, p0, p1⟩ := par_at h (by omega : 0 < k) h1
      have lc := line_cons h (by omega : 0 < k) h1
      rw [lc] at hl hr
      cases n with
      | zero => omega
      | succ n =>
      obtain ⟨P, hP⟩ := reach h l n (parI rs k) (by omega) p0 (by omega) (fun m hm => hl m (List.mem_cons_of_mem _ hm)) fun o a b d => hr o a b (riv_cons d)
      have lat : laterR rs l (parI rs k) = some k := by
        unfold laterR
        rw [irng_split (b := k) (by omega) (by omega), List.find?_append, List.find?_eq_none.mpr, Option.none_or, irng_cons h1, List.find?_cons]
        · have hk : hitR rs l (parI rs k) k = true := by
            unfold hitR
            rw [g]
            have mk := hl k List.mem_cons_self
            unfold mAt at mk
            rw [g] at mk
            show (decide (r.par = some (parI rs k)) && _) = true
            rw [Bool.and_eq_true, decide_eq_true_eq]
            exact ⟨p, mk⟩
          rw [hk]
        · intro o ho hh
          have hb := irng_mem ho
          obtain ⟨q, g2, p2, _⟩ := par_at h (by omega : 0 < o) (by omega)
          unfold hitR at hh
          rw [g2] at hh
          simp only [Bool.and_eq_true, decide_eq_true_eq] at hh
          rw [p2] at hh
          have ne := hr o (by omega) (by omega) (by
            unfold rivB
            rw [List.any_cons, Bool.or_eq_true]
            left
            rw [Bool.and_eq_true, decide_eq_true_eq, decide_eq_true_eq]
            exact ⟨hb.2, by injection hh.1⟩)
          unfold mAt at ne
          rw [g2] at ne
          have h2 := hh.2
          change (q.ms.all fun m => matM m l) = false at ne
          rw [ne] at h2
          cases h2
      obtain ⟨N, hN⟩ : ∃ N, rs.length = N + 1 := ⟨rs.length - 1, by omega⟩
      have u : wayR rs l rs.length (parI rs k) = k :: wayR rs l rs.length k := by
        rw [way_stable rs l rs.length N k (by omega) (by omega), hN]
        show (match laterR rs l (parI rs k) with | none => [] | some k => k :: wayR rs l N k) = _
        rw [lat]
      exact ⟨P ++ [parI rs k], by rw [hP, u, List.append_assoc]; rfl⟩
theorem past_thr {rs : List Rt} (h : RtsOk rs) {k : Int} (h0 : 0 ≤ k) (h1 : k < rs.length) {l : Lab} (hp : pastB rs (lineR rs k) (rivR rs k) l = true) : thrB rs k l = true := by
  unfold pastB at hp
  rw [Bool.and_eq_true, Bool.not_eq_true', List.any_eq_false, List.all_eq_true] at hp
  obtain ⟨P, hP⟩ := reach h l k.toNat k (Nat.le_refl _) h0 h1 hp.1 fun o o0 o1 hr => by
    have := hp.2 o (List.mem_filter.mpr ⟨List.mem_of_getElem? (i := (o - 1).toNat) (by rw [irng_at (by omega)]; congr 1; omega), hr⟩)
    simpa using this
  unfold thrB
  rw [hP]
  simp
theorem no_past {rs : List Rt} (h : RtsOk rs) {k : Int} (h0 : 0 ≤ k) (h1 : k < rs.length) {L : List Lab} (hn : L.find? (thrB rs k) = none) : L.any (pastB rs (lineR rs k) (rivR rs k)) = false := by
  rw [List.any_eq_false]
  intro l hl hp
  exact List.find?_eq_none.mp hn l hl (past_thr h h0 h1 hp)
/-! ### the law's own -/
abbrev eLL (T : List Rt) (k : Int) (R : List Int) (t : Option SV) : En := [some (.d (.list (T.map encRt))), some (.d (.int k)), some (.ol (R.map PyData.int)), t]
theorem law_line_loop {T : List Rt} (h : RtsOk T) : ∀ (u : List D) (k : Int) (R : List Int), 0 ≤ k → k < T.length → k.toNat ≤ u.length → R.length + u.length ≤ 100 → forF (setD 3) law_line_w1 u (eLL T k R none) = .ok (.nx (eLL T 0 (R ++ lineR T k) none))
  | [], k, R, h0, h1, h2, _ => by
    have : k = 0 := by simp at h2; omega
    subst this
    rw [show lineR T 0 = [] from rfl, List.append_nil]; rfl
  | x :: u, k, R, h0, h1, h2, h3 => by
    have hz := line16
    rw [List.length_cons] at h2 h3
    rw [forF]
    show (match Pl.R.ok (eLL T k R (some (.d x))) with | Pl.R.ok ρ1 => (law_line_w1 ρ1 >>= _) | _ => Pl.R.bad) = _
    by_cases c : k = 0
    · subst c
      have ih := law_line_loop h u 0 R (by omega) h1 (by omega) (by omega)
      have e : law_line_w1 (eLL T 0 R (some (.d x))) = .ok (.nx (eLL T 0 R none)) := by
        show law_line_w1 [some (.d (.list (T.map encRt))), some (.d (.int 0)), some (.ol (R.map PyData.int)), some (.d x)] = .ok (.nx [some (.d (.list (T.map encRt))), some (.d (.int 0)), some (.ol (R.map PyData.int)), none])
        unfold law_line_w1
        generalize T.map encRt = X
        generalize R.map PyData.int = Y
        simp
      simp only [e, ok_bind]
      exact ih
    · obtain ⟨r, g, p, p0, p1⟩ := par_at h (by omega : 0 < k) h1
      have ih := law_line_loop h u (parI T k) (R ++ [k]) p0 (by omega) (by omega) (by simp; omega)
      have ix : ixS (.d (.list (T.map encRt))) (.d (.int k)) = .ok (.d (encRt r)) := by rw [ixS_l, atI_map' encRt T k r h0 g]
      have i0 : ixS (.d (encRt r)) (.d (.int 0)) = .ok (.d (.int (parI T k))) := by
        show Pl.R.ok (SV.d (encI r.par)) = _
        rw [p]; rfl
      have hl : R.length < sizeLine := by omega
      have e : law_line_w1 (eLL T k R (some (.d x))) = .ok (.nx (eLL T (parI T k) (R ++ [k]) none)) := by
        show law_line_w1 [some (.d (.list (T.map encRt))), some (.d (.int k)), some (.ol (R.map PyData.int)), some (.d x)] = .ok (.nx [some (.d (.list (T.map encRt))), some (.d (.int (parI T k))), some (.ol ((R ++ [k]).map PyData.int)), none])
        unfold law_line_w1
        generalize encRt r = Y at *
        generalize PyData.list (T.map encRt) = X at *
        simp [c, hl, ix, i0]
      simp only [e, ok_bind]
      rw [ih, line_cons h (by omega) h1, List.append_assoc]; rfl
theorem law_line_ok {T : List Rt} (h : RtsOk T) (k : Int) (h0 : 0 ≤ k) (h1 : k < T.length) : law_line_f [.list (T.map encRt), .int k] = .ok (.ol ((lineR T k).map PyData.int)) := by
  have hle := h.le
  have lp := law_line_loop h (rng 0 T.length) k [] h0 h1 (by rw [rng_len]; omega) (by rw [rng_len]; simp; omega)
  have hb : ∀ ρ, ρ = [some (.d (.list (T.map encRt))), some (.d (.int k)), none, none] → law_line_b ρ = .ok (.rt (.ol ((lineR T k).map PyData.int))) := by
    rintro _ rfl
    unfold law_line_b
    exact seq_nx (asg_nx (r := .ol []) rfl rfl) (seq_nx (ρ1 := eLL T 0 ([] ++ lineR T k) none) (forS_rng1 (ρ := eLL T k [] none) (j := T.length) (by simp) (okR_of (by omega) (by omega)) lp) rfl)
  exact runB_rt (hb _ rfl) rfl
theorem law_all {T : List Rt} (i : Nat) (xs : List Int) (l : Lab) (ρ : En) (hx : ∀ k ∈ xs, 0 ≤ k ∧ k < T.length) (hl : xs.length < sizeLine) (hi : ρ[i]? = some (some (.d (.list (xs.map PyData.int))))) (h0 : ∀ k, ((wipeE ρ [6]).set 6 (some (.d (.int k))))[0]? = some (some (.d (.list (T.map encRt))))) (h5 : ∀ k, ((wipeE ρ [6]).set 6 (some (.d (.int k))))[5]? = some (some (.d (encB l)))) (h6 : 6 < (wipeE ρ [6]).length) :
    lcE (seqD (getV i)) (setD 6) yesT (callF 2 law_matches_f (conA (bin ixS (bin ixS (peek 0) (peek 6)) (kon (.int 1))) (conA (getV 5) nilA))) [6] ρ = .ok (.ol ((xs.map fun k => mAt T k l).map PyData.bool)) := by
  have z := lcE_allα PyData.int (fun k => .bool (mAt T k l)) (fi := seqD (getV i)) (k := setD 6) (e := callF 2 law_matches_f (conA (bin ixS (bin ixS (peek 0) (peek 6)) (kon (.int 1))) (conA (getV 5) nilA))) (vs := [6]) (ρ := ρ) xs (seqD_l (by rw [getV_ap, hi])) hl fun k hk => ⟨_, rfl, .d (.bool (mAt T k l)), by
    obtain ⟨r, g, ix, ma⟩ := rt_at (rs := T) (hx k hk).1 (hx k hk).2
    have i1 : ixS (.d (encRt r)) (.d (.int 1)) = .ok (.d (.tuple (r.ms.map encMt))) := rfl
    have m := law_matches_ok (.tuple (r.ms.map encMt)) r.ms l (.inl rfl)
    rw [← ma l] at m
    have a0 := h0 k
    have a5 := h5 k
    have a6 : ((wipeE ρ [6]).set 6 (some (.d (.int k))))[6]? = some (some (.d (.int k))) := List.getElem?_set_self h6
    generalize (wipeE ρ [6]).set 6 (some (.d (.int k))) = ρ1 at *
    generalize encRt r = Y at *
    generalize PyData.list (T.map encRt) = X at *
    generalize encB l = B at *
    generalize PyData.tuple (r.ms.map encMt) = M at *
    simp [a0, a5, a6, ix, i1, m], rfl⟩
  rw [z, List.map_map]; rfl
theorem law_past_loop {T : List Rt} (line riv : List Int) (FD : D) (h1 : ∀ k ∈ line, 0 ≤ k ∧ k < T.length) (h2 : ∀ k ∈ riv, 0 ≤ k ∧ k < T.length) (l1 : line.length ≤ 1000) (l2 : riv.length ≤ 1000) : ∀ (u R : List Lab), R.length + u.length ≤ 1000 → forF (setD 5) law_past_w1 (u.map encB) [some (.d (.list (T.map encRt))), some (.d (.list (line.map PyData.int))), some (.d (.list (riv.map PyData.int))), some (.d FD), some (.ol (R.map encB)), none, none] = .ok (.nx [some (.d (.list (T.map encRt))), some (.d (.list (line.map PyData.int))), some (.d (.list (riv.map PyData.int))), some (.d FD), some (.ol ((R ++ u.filter (pastB T line riv)).map encB)), none, none])
  | [], R, _ => by simp [forF]
  | l :: u, R, hl => by
    have hz := line16
    rw [List.length_cons] at hl
    have ih := law_past_loop line riv FD h1 h2 l1 l2 u (if pastB T line riv l = true then R ++ [l] else R) (by
      split
      · rw [List.length_append]; simp; omega
      · omega)
    have hRl : R.length < sizeLine := by omega
    have a1 := law_all (T := T) 1 line l [some (.d (.list (T.map encRt))), some (.d (.list (line.map PyData.int))), some (.d (.list (riv.map PyData.int))), some (.d FD), some (.ol (R.map encB)), some (.d (encB l)), none] h1 (by omega) rfl (fun _ => rfl) (fun _ => rfl) (by show 6 < 7; omega)
    have a2 := law_all (T := T) 2 riv l [some (.d (.list (T.map encRt))), some (.d (.list (line.map PyData.int))), some (.d (.list (riv.map PyData.int))), some (.d FD), some (.ol (R.map encB)), some (.d (encB l)), none] h2 (by omega) rfl (fun _ => rfl) (fun _ => rfl) (by show 6 < 7; omega)
    have e : law_past_w1 [some (.d (.list (T.map encRt))), some (.d (.list (line.map PyData.int))), some (.d (.list (riv.map PyData.int))), some (.d FD), some (.ol (R.map encB)), some (.d (encB l)), none] = .ok (.nx [some (.d (.list (T.map encRt))), some (.d (.list (line.map PyData.int))), some (.d (.list (riv.map PyData.int))), some (.d FD), some (.ol ((if pastB T line riv l = true then R ++ [l] else R).map encB)), none, none]) := by
      unfold law_past_w1
      have t1 : tru (callB allS (conB (lcE (seqD (getV 1)) (setD 6) yesT (callF 2 law_matches_f (conA (bin ixS (bin ixS (peek 0) (peek 6)) (kon (.int 1))) (conA (getV 5) nilA))) [6]) nilB)) [some (.d (.list (T.map encRt))), some (.d (.list (line.map PyData.int))), some (.d (.list (riv.map PyData.int))), some (.d FD), some (.ol (R.map encB)), some (.d (encB l)), none] = .ok (line.all fun k => mAt T k l) := by
        rw [tru_ap, callB_ap, conB_ap, a1, ok_bind, nilB_ap, ok_bind, ok_bind, allS_ol, List.all_map]; rfl
      have t2 : tru (callB anyS (conB (lcE (seqD (getV 2)) (setD 6) yesT (callF 2 law_matches_f (conA (bin ixS (bin ixS (peek 0) (peek 6)) (kon (.int 1))) (conA (getV 5) nilA))) [6]) nilB)) [some (.d (.list (T.map encRt))), some (.d (.list (line.map PyData.int))), some (.d (.list (riv.map PyData.int))), some (.d FD), some (.ol (R.map encB)), some (.d (encB l)), none] = .ok (riv.any fun k => mAt T k l) := by
        rw [tru_ap, callB_ap, conB_ap, a2, ok_bind, nilB_ap, ok_bind, ok_bind, anyS_ol, List.any_map]; rfl
      refine kill_nx (ρ1 := [some (.d (.list (T.map encRt))), some (.d (.list (line.map PyData.int))), some (.d (.list (riv.map PyData.int))), some (.d FD), some (.ol ((if pastB T line riv l = true then R ++ [l] else R).map encB)), some (.d (encB l)), none]) ?_ rfl
      have tt : andT (tru (callB allS (conB (lcE (seqD (getV 1)) (setD 6) yesT (callF 2 law_matches_f (conA (bin ixS (bin ixS (peek 0) (peek 6)) (kon (.int 1))) (conA (getV 5) nilA))) [6]) nilB))) (notT (tru (callB anyS (conB (lcE (seqD (getV 2)) (setD 6) yesT (callF 2 law_matches_f (conA (bin ixS (bin ixS (peek 0) (peek 6)) (kon (.int 1))) (conA (getV 5) nilA))) [6]) nilB)))) [some (.d (.list (T.map encRt))), some (.d (.list (line.map PyData.int))), some (.d (.list (riv.map PyData.int))), some (.d FD), some (.ol (R.map encB)), some (.d (encB l)), none] = .ok (pastB T line riv l) := by
        unfold pastB
        rw [andT_ap, t1, ok_bind]
        cases line.all fun k => mAt T k l with
        | false => rfl
        | true => rw [if_pos rfl, notT_ap, t2]; rfl
      rw [ifS_ap, tt, ok_bind]
      cases pastB T line riv l with
      | false => rfl
      | true =>
        rw [if_pos rfl]
        show appS 4 (getV 5) _ = .ok (.nx [some (.d (.list (T.map encRt))), some (.d (.list (line.map PyData.int))), some (.d (.list (riv.map PyData.int))), some (.d FD), some (.ol ((R ++ [l]).map encB)), some (.d (encB l)), none])
        generalize T.map encRt = X
        generalize line.map PyData.int = Y
        generalize riv.map PyData.int = Z
        rw [List.map_append]
        simp [hRl]
    rw [List.map_cons, forF]
    show (match Pl.R.ok [some (.d (.list (T.map encRt))), some (.d (.list (line.map PyData.int))), some (.d (.list (riv.map PyData.int))), some (.d FD), some (.ol (R.map encB)), some (.d (encB l)), none] with | Pl.R.ok ρ1 => (law_past_w1 ρ1 >>= _) | _ => Pl.R.bad) = _
    simp only [e, ok_bind]
    rw [ih, List.filter_cons]
    cases pastB T line riv l with
    | true => rw [if_pos rfl, if_pos rfl, List.append_assoc]; rfl
    | false => rw [if_neg (by decide), if_neg (by decide)]
theorem law_past_ok {T : List Rt} (line riv : List Int) (L : List Lab) (h1 : ∀ k ∈ line, 0 ≤ k ∧ k < T.length) (h2 : ∀ k ∈ riv, 0 ≤ k ∧ k < T.length) (l1 : line.length ≤ 1000) (l2 : riv.length ≤ 1000) (hL : L.length ≤ 300) : law_past_f [.list (T.map encRt), .list (line.map PyData.int), .list (riv.map PyData.int), .list (L.map encB)] = .ok (.ol ((L.filter (pastB T line riv)).map encB)) := by
  have lp := law_past_loop line riv (.list (L.map encB)) h1 h2 l1 l2 L [] (by simp; omega)
  have hb : ∀ ρ, ρ = [some (.d (.list (T.map encRt))), some (.d (.list (line.map PyData.int))), some (.d (.list (riv.map PyData.int))), some (.d (.list (L.map encB))), none, none, none] → law_past_b ρ = .ok (.rt (.ol ((L.filter (pastB T line riv)).map encB))) := by
    rintro _ rfl
    unfold law_past_b
    exact seq_nx (asg_nx (r := .ol []) rfl rfl) (seq_nx (forS_lst (ρ := [some (.d (.list (T.map encRt))), some (.d (.list (line.map PyData.int))), some (.d (.list (riv.map PyData.int))), some (.d (.list (L.map encB))), some (.ol []), none, none]) rfl lp) rfl)
  exact runB_rt (hb _ rfl) rfl
theorem fil_emp {L : List Lab} {p : Lab → Bool} : (!((L.filter p).map encB).isEmpty) = L.any p := by
  induction L with
  | nil => rfl
  | cons x u ih =>
    rw [List.filter_cons, List.any_cons]
    cases p x with
    | true => rfl
    | false => simpa using ih
abbrev eK (sc MU : D) (T : List Rt) (L : List Lab) (k : Option SV) (s6 s7 s8 s9 s10 s11 : Option SV) : En := [some (.d sc), some (.d (.list (T.map encRt))), some (.d MU), some (.d (.list (L.map encB))), some (.ol ((irng 0 T.length).map (survRow T L))), k, s6, s7, s8, s9, s10, s11, none]
theorem past_test {T : List Rt} (line : List Int) (riv : En → R SV) (xs : List Int) (L : List Lab) (ρ : En) {r : SV} (hr : riv ρ = .ok r) (hr2 : datS r = .ok (.list (xs.map PyData.int))) (e1 : ρ[1]? = some (some (.d (.list (T.map encRt))))) (e6 : ρ[6]? = some (some (.d (.list (line.map PyData.int))))) (e3 : ρ[3]? = some (some (.d (.list (L.map encB)))))
    (h1 : ∀ k ∈ line, 0 ≤ k ∧ k < T.length) (h2 : ∀ k ∈ xs, 0 ≤ k ∧ k < T.length) (l1 : line.length ≤ 1000) (l2 : xs.length ≤ 1000) (hL : L.length ≤ 300) :
    tru (callF 4 law_past_f (conA (getV 1) (conA (getV 6) (conA riv (conA (getV 3) nilA))))) ρ = .ok (L.any (pastB T line xs)) := by
  have lp := law_past_ok line xs L h1 h2 l1 l2 hL
  rw [← fil_emp]
  generalize (L.filter (pastB T line xs)).map encB = F at *
  generalize T.map encRt = X at *
  generalize line.map PyData.int = Y at *
  generalize xs.map PyData.int = Z at *
  generalize L.map encB = W at *
  simp [e1, e6, e3, hr, hr2, lp]
theorem lw1_ok (sc MU : D) (T : List Rt) (L : List Lab) (k : Int) (line B : List Int) (s8 s10 : Option SV) (j : Int) (h1 : ∀ k ∈ line, 0 ≤ k ∧ k < T.length) (h2 : ∀ k ∈ B, 0 ≤ k ∧ k < T.length) (l1 : line.length ≤ 1000) (l2 : B.length ≤ 1000) (hL : L.length ≤ 300) (hn : L.any (pastB T line (fewR B j)) = true) :
    law_w1 (eK sc MU T L (some (.d (.int k))) (some (.d (.list (line.map PyData.int)))) (some (.d (.int j))) s8 (some (.d (.list (B.map PyData.int)))) s10 none) = .ok (.nx (eK sc MU T L (some (.d (.int k))) (some (.d (.list (line.map PyData.int)))) none s8 (some (.d (.list (B.map PyData.int)))) s10 none)) := by
  have hz := line16
  unfold law_w1
  refine kill_nx (ρ1 := eK sc MU T L (some (.d (.int k))) (some (.d (.list (line.map PyData.int)))) (some (.d (.int j))) s8 (some (.d (.list (B.map PyData.int)))) s10 none) ?_ rfl
  rw [frzS_ap]
  show ifS _ _ _ (eK sc MU T L (some (.d (.int k))) (some (.d (.list (line.map PyData.int)))) (some (.d (.int j))) s8 (some (.d (.list (B.map PyData.int)))) s10 none) = _
  have f := few_lc 9 12 7 B j (eK sc MU T L (some (.d (.int k))) (some (.d (.list (line.map PyData.int)))) (some (.d (.int j))) s8 (some (.d (.list (B.map PyData.int)))) s10 none) rfl (fun _ => rfl) (by show 12 < 13; omega) (by omega)
  have t := past_test (T := T) line _ (fewR B j) L _ f rfl rfl rfl rfl h1 (fun x hx => h2 x (few_sub hx)) l1 (Nat.le_trans (List.length_filter_le _ _) l2) hL
  rw [ifS_ap, notT_ap, t, hn]; rfl
theorem lw2_ok (sc MU : D) (T : List Rt) (L : List Lab) (k : Int) (line kept : List Int) (s8 s9 : Option SV) (s10 : SV) (j : Int) (h10 : ILs kept s10) (h1 : ∀ k ∈ line, 0 ≤ k ∧ k < T.length) (h2 : ∀ k ∈ kept, 0 ≤ k ∧ k < T.length) (l1 : line.length ≤ 1000) (l2 : kept.length ≤ 1000) (hL : L.length ≤ 300) :
    law_w2 (eK sc MU T L (some (.d (.int k))) (some (.d (.list (line.map PyData.int)))) (some (.d (.int j))) s8 s9 (some s10) none) = .ok (.nx (eK sc MU T L (some (.d (.int k))) (some (.d (.list (line.map PyData.int)))) none s8 s9 (some (.d (.list ((blkStep T L line kept j).map PyData.int)))) none)) := by
  have hz := line16
  unfold law_w2
  refine kill_nx (ρ1 := eK sc MU T L (some (.d (.int k))) (some (.d (.list (line.map PyData.int)))) (some (.d (.int j))) s8 s9 (some (.d (.list ((blkStep T L line kept j).map PyData.int)))) (some (.d (.list ((fewR kept j).map PyData.int))))) ?_ rfl
  refine seq_nx (ρ1 := eK sc MU T L (some (.d (.int k))) (some (.d (.list (line.map PyData.int)))) (some (.d (.int j))) s8 s9 (some (.d (.list (kept.map PyData.int)))) (some (.ol ((fewR kept j).map PyData.int)))) ?_ ?_
  · rw [frzS_ap]
    have fz : [10].foldl (fun ρ i => frzE i ρ) (eK sc MU T L (some (.d (.int k))) (some (.d (.list (line.map PyData.int)))) (some (.d (.int j))) s8 s9 (some s10) none) = eK sc MU T L (some (.d (.int k))) (some (.d (.list (line.map PyData.int)))) (some (.d (.int j))) s8 s9 (some (.d (.list (kept.map PyData.int)))) none := by
      rcases h10 with rfl | rfl <;> rfl
    rw [fz]
    exact asg_nx (few_lc 10 12 7 kept j (eK sc MU T L (some (.d (.int k))) (some (.d (.list (line.map PyData.int)))) (some (.d (.int j))) s8 s9 (some (.d (.list (kept.map PyData.int)))) none) rfl (fun _ => rfl) (by show 12 < 13; omega) (by omega)) rfl
  · rw [frzS_ap]
    show ifS _ _ _ (eK sc MU T L (some (.d (.int k))) (some (.d (.list (line.map PyData.int)))) (some (.d (.int j))) s8 s9 (some (.d (.list (kept.map PyData.int)))) (some (.d (.list ((fewR kept j).map PyData.int))))) = _
    have t := past_test (T := T) line (getV 11) (fewR kept j) L (eK sc MU T L (some (.d (.int k))) (some (.d (.list (line.map PyData.int)))) (some (.d (.int j))) s8 s9 (some (.d (.list (kept.map PyData.int)))) (some (.d (.list ((fewR kept j).map PyData.int))))) rfl rfl rfl rfl rfl h1 (fun x hx => h2 x (few_sub hx)) l1 (Nat.le_trans (List.length_filter_le _ _) l2) hL
    rw [ifS_ap, notT_ap, t]
    unfold blkStep
    cases L.any (pastB T line (fewR kept j)) <;> rfl
theorem lw2_loop (sc MU : D) (T : List Rt) (L : List Lab) (k : Int) (line : List Int) (s8 s9 : Option SV) (h1 : ∀ k ∈ line, 0 ≤ k ∧ k < T.length) (l1 : line.length ≤ 1000) (hL : L.length ≤ 300) : ∀ (u kept : List Int) (s10 : SV), ILs kept s10 → (∀ k ∈ kept, 0 ≤ k ∧ k < T.length) → kept.length ≤ 1000 → ∃ s10', ILs (u.foldl (blkStep T L line) kept) s10' ∧ forF (setD 7) law_w2 (u.map PyData.int) (eK sc MU T L (some (.d (.int k))) (some (.d (.list (line.map PyData.int)))) none s8 s9 (some s10) none) = .ok (.nx (eK sc MU T L (some (.d (.int k))) (some (.d (.list (line.map PyData.int)))) none s8 s9 (some s10') none))
  | [], kept, s10, h, _, _ => ⟨s10, h, rfl⟩
  | j :: u, kept, s10, h, h2, hl => by
    have e := lw2_ok sc MU T L k line kept s8 s9 s10 j h h1 h2 l1 hl hL
    obtain ⟨s', a, ih⟩ := lw2_loop sc MU T L k line s8 s9 h1 l1 hL u (blkStep T L line kept j) (.d (.list ((blkStep T L line kept j).map PyData.int))) (.inr rfl) (fun x hx => h2 x (step_sub hx)) (Nat.le_trans step_len hl)
    refine ⟨s', a, ?_⟩
    rw [List.map_cons, forF]
    show (match Pl.R.ok (eK sc MU T L (some (.d (.int k))) (some (.d (.list (line.map PyData.int)))) (some (.d (.int j))) s8 s9 (some s10) none) with | Pl.R.ok ρ1 => (law_w2 ρ1 >>= _) | _ => Pl.R.bad) = _
    simp only [e, ok_bind]
    exact ih
theorem same_ints (ns : List Int) (h : ns.length < 1000000) : law_same_f [.list (ns.map PyData.int), .list (ns.map PyData.int)] = .ok (.d (.bool true)) := by
  refine same_ok 8 _ ?_
  simp only [wfD, Bool.and_eq_true, decide_eq_true_eq, List.all_eq_true, List.length_map]
  refine ⟨h, fun x hx => ?_⟩
  obtain ⟨p, _, rfl⟩ := List.mem_map.mp hx
  rfl
theorem lw3_ok (sc MU : D) (T : List Rt) (L : List Lab) (k : Int) (h : RtsOk T) (h0 : 0 ≤ k) (h1 : k < T.length) (hL : L.length ≤ 300) : law_w3 (eK sc MU T L (some (.d (.int k))) none none none none none none) = .ok (.nx (eK sc MU T L none none none none none none none)) := by
  have hz := line16
  have hle := h.le
  have rw_ : ixS (.ol ((irng 0 T.length).map (survRow T L))) (.d (.int k)) = .ok (.d (survRow T L k)) := by
    rw [ixS_ol, atI_map' (survRow T L) (irng 0 T.length) k k h0 (by
      have := irng_at (a := 0) (b := T.length) (i := k.toNat) (by omega)
      rw [this]; congr 1; omega)]
  have q2 : ∀ s6 s7 s8 s9 s10, bin ixS (bin ixS (peek 4) (peek 5)) (kon (.int 1)) (eK sc MU T L (some (.d (.int k))) s6 s7 s8 s9 s10 none) = .ok (.d (labO (L.find? (thrB T k)))) := fun s6 s7 s8 s9 s10 => by
    show ((ixS (.ol ((irng 0 T.length).map (survRow T L))) (.d (.int k))) >>= fun a => ixS a (.d (.int 1))) = _
    rw [rw_, ok_bind]; rfl
  have q3 : ∀ s6 s7 s8 s9 s10, bin ixS (bin ixS (peek 4) (peek 5)) (kon (.int 2)) (eK sc MU T L (some (.d (.int k))) s6 s7 s8 s9 s10 none) = .ok (.d (.list ((blkO T L k).map PyData.int))) := fun s6 s7 s8 s9 s10 => by
    show ((ixS (.ol ((irng 0 T.length).map (survRow T L))) (.d (.int k))) >>= fun a => ixS a (.d (.int 2))) = _
    rw [rw_, ok_bind]; rfl
  have t0 : asT (bin (isnS false) (bin ixS (bin ixS (peek 4) (peek 5)) (kon (.int 1))) (kon .none)) (eK sc MU T L (some (.d (.int k))) none none none none none none) = .ok (L.find? (thrB T k)).isNone := by
    rw [asT_ap, bin_ap, q2, ok_bind]
    cases L.find? (thrB T k) <;> rfl
  unfold law_w3
  cases c : L.find? (thrB T k) with
  | some x =>
    refine kill_nx (ρ1 := eK sc MU T L (some (.d (.int k))) none none none none none none) ?_ rfl
    rw [ifS_ap, t0, c]; rfl
  | none =>
    have hbo : blkO T L k = blkR T L k := by unfold blkO; rw [c]; rfl
    have ln := line_mem h k.toNat k (Nat.le_refl _) h0 h1
    have hln : ∀ m ∈ lineR T k, 0 ≤ m ∧ m < T.length := fun m hm => by have := ln m hm; omega
    have ll := line_len h k.toNat k (Nat.le_refl _) h0 h1
    have hrv : ∀ m ∈ rivR T k, 0 ≤ m ∧ m < T.length := fun m hm => by have := riv_mem (rs := T) (k := k) hm; omega
    have rl := riv_len (rs := T) (k := k) h
    have hbk : ∀ m ∈ blkR T L k, m ∈ rivR T k := fun m hm => fold_sub _ _ m hm
    have bl : (blkR T L k).length ≤ 1000 := by
      have : ∀ (u kept : List Int), (u.foldl (blkStep T L (lineR T k)) kept).length ≤ kept.length := by
        intro u
        induction u with
        | nil => intro kept; exact Nat.le_refl _
        | cons r u ih => intro kept; exact Nat.le_trans (ih _) step_len
      have := this (rivR T k) (rivR T k)
      unfold blkR; omega
    have np := fold_no (rivR T k) (rivR T k) (no_past h h0 h1 c)
    have np : L.any (pastB T (lineR T k) (blkR T L k)) = false := np
    have nd : ∀ j ∈ blkR T L k, L.any (pastB T (lineR T k) (fewR (blkR T L k) j)) = true := fun j hj => fold_need _ _ j (hbk j hj) hj
    have la := law_line_ok h k h0 h1
    have rv : lcE (rngD2 (conB (kon (.int 1)) (conB (callB lenS (conB (peek 1) nilB)) nilB))) (setD 7) (tru (callB anyS (conB (lcE (seqD (getV 6)) (setD 12) yesT (andV (bin ltS (peek 7) (peek 12)) (bin (eqS false) (bin ixS (bin ixS (peek 1) (peek 7)) (kon (.int 0))) (bin ixS (bin ixS (peek 1) (peek 12)) (kon (.int 0))))) [12]) nilB))) (getV 7) [7] (eK sc MU T L (some (.d (.int k))) (some (.d (.list ((lineR T k).map PyData.int)))) none none none none none) = .ok (.ol ((rivR T k).map PyData.int)) := by
      refine lcE_mapα PyData.int (rivB T (lineR T k)) PyData.int (irng 1 T.length) ?_ (by rw [irng_len]; omega) fun o ho => ⟨eK sc MU T L (some (.d (.int k))) (some (.d (.list ((lineR T k).map PyData.int)))) (some (.d (.int o))) none none none none, rfl, ?_, fun _ => ⟨.d (.int o), rfl, rfl⟩⟩
      · rw [← rng_irng]
        exact rngD2_is (by rfl) (by simp) okR_1 (okR_of (by omega) (by omega))
      · have hob := irng_mem ho
        obtain ⟨r, g, p, _⟩ := par_at h (by omega : 0 < o) (by omega)
        have ix : ixS (.d (.list (T.map encRt))) (.d (.int o)) = .ok (.d (encRt r)) := by rw [ixS_l, atI_map' encRt T o r (by omega) g]
        have i0 : ixS (.d (encRt r)) (.d (.int 0)) = .ok (.d (.int (parI T o))) := by
          show Pl.R.ok (SV.d (encI r.par)) = _
          rw [p]; rfl
        have z := lcE_allα PyData.int (fun m => .bool (decide (o < m) && decide (parI T o = parI T m))) (fi := seqD (getV 6)) (k := setD 12) (e := andV (bin ltS (peek 7) (peek 12)) (bin (eqS false) (bin ixS (bin ixS (peek 1) (peek 7)) (kon (.int 0))) (bin ixS (bin ixS (peek 1) (peek 12)) (kon (.int 0))))) (vs := [12]) (ρ := eK sc MU T L (some (.d (.int k))) (some (.d (.list ((lineR T k).map PyData.int)))) (some (.d (.int o))) none none none none) (lineR T k) rfl (by omega) fun m hm => ⟨_, rfl, .d (.bool (decide (o < m) && decide (parI T o = parI T m))), by
          obtain ⟨m0, m1⟩ := ln m hm
          obtain ⟨q, g2, p2, _⟩ := par_at h m0 m1
          have ix2 : ixS (.d (.list (T.map encRt))) (.d (.int m)) = .ok (.d (encRt q)) := by rw [ixS_l, atI_map' encRt T m q (by omega) g2]
          have i2 : ixS (.d (encRt q)) (.d (.int 0)) = .ok (.d (.int (parI T m))) := by
            show Pl.R.ok (SV.d (encI q.par)) = _
            rw [p2]; rfl
          show andV _ _ [some (.d sc), some (.d (.list (T.map encRt))), some (.d MU), some (.d (.list (L.map encB))), some (.ol ((irng 0 T.length).map (survRow T L))), some (.d (.int k)), some (.d (.list ((lineR T k).map PyData.int))), some (.d (.int o)), none, none, none, none, some (.d (.int m))] = _
          clear la q2 q3 t0 rw_
          generalize encRt r = Y at *
          generalize encRt q = Z at *
          generalize PyData.list (T.map encRt) = X at *
          generalize parI T o = a at *
          generalize parI T m = b at *
          by_cases c1 : o < m
          · simp [c1, ix, ix2, i0, i2]
          · simp [c1], rfl⟩
        have am : ((lineR T k).map fun m => PyData.bool (decide (o < m) && decide (parI T o = parI T m))) = ((lineR T k).map fun m => (decide (o < m) && decide (parI T o = parI T m))).map PyData.bool := by rw [List.map_map]; rfl
        rw [am] at z
        rw [tru_ap, callB_ap, conB_ap, z, ok_bind, nilB_ap, ok_bind, ok_bind, anyS_ol, List.any_map]; rfl
    refine kill_nx (ρ1 := eK sc MU T L (some (.d (.int k))) (some (.d (.list ((lineR T k).map PyData.int)))) none (some (.d (.list ((rivR T k).map PyData.int)))) (some (.d (.list ((blkR T L k).map PyData.int)))) (some (.d (.list ((blkR T L k).map PyData.int)))) none) ?_ rfl
    rw [ifS_ap, t0, c]
    show seqS _ _ _ = _
    refine seq_nx (ρ1 := eK sc MU T L (some (.d (.int k))) (some (.ol ((lineR T k).map PyData.int))) none none none none none) (asg_nx (r := .ol ((lineR T k).map PyData.int)) (by
      show callF 2 law_line_f _ [some (.d sc), some (.d (.list (T.map encRt))), some (.d MU), some (.d (.list (L.map encB))), some (.ol ((irng 0 T.length).map (survRow T L))), some (.d (.int k)), none, none, none, none, none, none, none] = _
      clear rw_ q2 q3 t0 rv
      generalize T.map encRt = X at *
      simp [la]) rfl) ?_
    refine seq_nx (ρ1 := eK sc MU T L (some (.d (.int k))) (some (.d (.list ((lineR T k).map PyData.int)))) none (some (.ol ((rivR T k).map PyData.int))) none none none) ?_ ?_
    · rw [frzS_ap]
      exact asg_nx rv rfl
    refine seq_nx (ρ1 := eK sc MU T L (some (.d (.int k))) (some (.d (.list ((lineR T k).map PyData.int)))) none (some (.ol ((rivR T k).map PyData.int))) (some (.d (.list ((blkR T L k).map PyData.int)))) none none) (asg_nx (q3 _ _ _ _ _) (by rw [hbo]; rfl)) ?_
    refine seq_nx (ρ1 := eK sc MU T L (some (.d (.int k))) (some (.d (.list ((lineR T k).map PyData.int)))) none (some (.ol ((rivR T k).map PyData.int))) (some (.d (.list ((blkR T L k).map PyData.int)))) none none) ?_ ?_
    · rw [frzS_ap]
      show ifS _ _ _ (eK sc MU T L (some (.d (.int k))) (some (.d (.list ((lineR T k).map PyData.int)))) none (some (.ol ((rivR T k).map PyData.int))) (some (.d (.list ((blkR T L k).map PyData.int)))) none none) = _
      have z := lcE_mapα PyData.int (fun x => !decide (x ∈ rivR T k)) PyData.int (fi := seqD (getV 9)) (k := setD 7) (t := asT (bin (inS true) (peek 7) (peek 8))) (e := getV 7) (vs := [7]) (ρ := eK sc MU T L (some (.d (.int k))) (some (.d (.list ((lineR T k).map PyData.int)))) none (some (.ol ((rivR T k).map PyData.int))) (some (.d (.list ((blkR T L k).map PyData.int)))) none none) (blkR T L k) rfl (by omega) fun x _ => ⟨eK sc MU T L (some (.d (.int k))) (some (.d (.list ((lineR T k).map PyData.int)))) (some (.d (.int x))) (some (.ol ((rivR T k).map PyData.int))) (some (.d (.list ((blkR T L k).map PyData.int)))) none none, rfl, by
          have i := inS_ints true x (rivR T k)
          rw [if_pos rfl] at i
          show (inS true (.d (.int x)) (.ol ((rivR T k).map PyData.int)) >>= bool1) = _
          rw [i]; rfl, fun _ => ⟨.d (.int x), rfl, rfl⟩⟩
      have em : (blkR T L k).filter (fun x => !decide (x ∈ rivR T k)) = [] := List.filter_eq_nil_iff.mpr fun x hx => by simp [hbk x hx]
      rw [em] at z
      have pt := past_test (T := T) (lineR T k) (getV 9) (blkR T L k) L (eK sc MU T L (some (.d (.int k))) (some (.d (.list ((lineR T k).map PyData.int)))) none (some (.ol ((rivR T k).map PyData.int))) (some (.d (.list ((blkR T L k).map PyData.int)))) none none) rfl rfl rfl rfl rfl hln (fun x hx => hrv x (hbk x hx)) (by omega) bl hL
      rw [ifS_ap, orT_ap, tru_ap, z, pt, np]; rfl
    refine seq_nx (ρ1 := eK sc MU T L (some (.d (.int k))) (some (.d (.list ((lineR T k).map PyData.int)))) none (some (.ol ((rivR T k).map PyData.int))) (some (.d (.list ((blkR T L k).map PyData.int)))) none none) ?_ ?_
    · refine forS_lst rfl ?_
      exact forF_go PyData.int (k := setD 7) (b := law_w1) (ρ0 := eK sc MU T L (some (.d (.int k))) (some (.d (.list ((lineR T k).map PyData.int)))) none (some (.ol ((rivR T k).map PyData.int))) (some (.d (.list ((blkR T L k).map PyData.int)))) none none) (blkR T L k) fun j hj => ⟨_, rfl, lw1_ok sc MU T L k (lineR T k) (blkR T L k) _ _ j hln (fun x hx => hrv x (hbk x hx)) (by omega) bl hL (nd j hj)⟩
    refine seq_nx (ρ1 := eK sc MU T L (some (.d (.int k))) (some (.d (.list ((lineR T k).map PyData.int)))) none (some (.ol ((rivR T k).map PyData.int))) (some (.d (.list ((blkR T L k).map PyData.int)))) (some (.ol ((rivR T k).map PyData.int))) none) (asg_nx rfl rfl) ?_
    obtain ⟨s10, hs, lp⟩ := lw2_loop sc MU T L k (lineR T k) (some (.d (.list ((rivR T k).map PyData.int)))) (some (.d (.list ((blkR T L k).map PyData.int)))) hln (by omega) hL (rivR T k) (rivR T k) (.ol ((rivR T k).map PyData.int)) (.inl rfl) hrv (by omega)
    refine seq_nx (ρ1 := eK sc MU T L (some (.d (.int k))) (some (.d (.list ((lineR T k).map PyData.int)))) none (some (.d (.list ((rivR T k).map PyData.int)))) (some (.d (.list ((blkR T L k).map PyData.int)))) (some s10) none) ?_ ?_
    · rw [frzS_ap]
      exact forS_lst (ρ := eK sc MU T L (some (.d (.int k))) (some (.d (.list ((lineR T k).map PyData.int)))) none (some (.d (.list ((rivR T k).map PyData.int)))) (some (.d (.list ((blkR T L k).map PyData.int)))) (some (.ol ((rivR T k).map PyData.int))) none) rfl lp
    · rw [frzS_ap]
      have fz : [10].foldl (fun ρ i => frzE i ρ) (eK sc MU T L (some (.d (.int k))) (some (.d (.list ((lineR T k).map PyData.int)))) none (some (.d (.list ((rivR T k).map PyData.int)))) (some (.d (.list ((blkR T L k).map PyData.int)))) (some s10) none) = eK sc MU T L (some (.d (.int k))) (some (.d (.list ((lineR T k).map PyData.int)))) none (some (.d (.list ((rivR T k).map PyData.int)))) (some (.d (.list ((blkR T L k).map PyData.int)))) (some (.d (.list ((blkR T L k).map PyData.int)))) none := by
        rcases hs with rfl | rfl <;> rfl
      rw [fz]
      have sm := same_ints (blkR T L k) (by omega)
      have tt : notT (tru (callF 2 law_same_f (conA (getV 9) (conA (getV 10) nilA)))) (eK sc MU T L (some (.d (.int k))) (some (.d (.list ((lineR T k).map PyData.int)))) none (some (.d (.list ((rivR T k).map PyData.int)))) (some (.d (.list ((blkR T L k).map PyData.int)))) (some (.d (.list ((blkR T L k).map PyData.int)))) none) = .ok false := by
        show ((law_same_f [.list ((blkR T L k).map PyData.int), .list ((blkR T L k).map PyData.int)] >>= truS) >>= fun b => Pl.R.ok (!b)) = _
        rw [sm]; rfl
      rw [ifS_ap, tt]; rfl
theorem law_true : ∀ ns : List Int, ns.length ≤ 63 → law_f [.list (ns.map PyData.int)] = .ok (.d (.bool true)) := by
  intro ns hn
  have hz := line16
  obtain ⟨T, mu, hT, hmu, hmv, lc⟩ := law_case_ok ns hn
  have sv := survey_ok T mu hT hmu hmv
  obtain ⟨f1, f2⟩ := hT.flat
  have tle := hT.le
  have l1 : listS [.d (.list (T.map encRt))] = .ok (.ol (T.map encRt)) := rfl
  have l3 : listS [.d (.list (mu.map encMt))] = .ok (.ol (mu.map encMt)) := rfl
  have hb : ∀ ρ, ρ = [some (.d (.list (ns.map PyData.int))), none, none, none, none, none, none, none, none, none, none, none, none] → law_b ρ = .ok (.rt (.d (.bool true))) := by
    rintro _ rfl
    unfold law_b
    refine seq_nx (ρ1 := [some (.d (.list (ns.map PyData.int))), some (.d (.list (T.map encRt))), some (.d (.list (mu.map encMt))), some (.d (foundD (consP mu (T.flatMap (·.ms))))), none, none, none, none, none, none, none, none, none]) ?_ ?_
    · generalize T.map encRt = TT at *
      generalize mu.map encMt = MU at *
      generalize foundD (consP mu (T.flatMap (·.ms))) = FO at *
      simp [lc]
    cases q : consP mu (T.flatMap (·.ms)) with
    | none =>
      exact seq_rt rfl
    | some L =>
      rw [q] at sv
      have sv : survey_f [.list (T.map encRt), .list (mu.map encMt)] = .ok (.ol ((irng 0 T.length).map (survRow T L))) := sv
      have hL : L.length ≤ 300 := by
        unfold consP at q
        obtain ⟨L0, q0, rfl⟩ := Option.map_eq_some_iff.mp q
        obtain ⟨l1, l2⟩ := samplesP_fact (mu ++ T.flatMap (·.ms)) (by rw [List.length_append]; omega) L0 q0
        exact Nat.le_trans (List.length_filter_le _ _) l1
      refine seq_nx (ρ1 := [some (.d (.list (ns.map PyData.int))), some (.d (.list (T.map encRt))), some (.d (.list (mu.map encMt))), some (.d (.list (L.map encB))), none, none, none, none, none, none, none, none, none]) rfl ?_
      refine seq_nx (ρ1 := eK (.list (ns.map PyData.int)) (.list (mu.map encMt)) T L none none none none none none none) (asg_nx (r := .ol ((irng 0 T.length).map (survRow T L))) (by
        generalize (irng 0 T.length).map (survRow T L) = RW at *
        generalize T.map encRt = TT at *
        generalize mu.map encMt = MU at *
        simp [l1, l3, sv]) rfl) ?_
      refine seq_nx (ρ1 := eK (.list (ns.map PyData.int)) (.list (mu.map encMt)) T L none none none none none none none) ?_ rfl
      have go := forF_go PyData.int (k := setD 5) (b := law_w3) (ρ0 := eK (.list (ns.map PyData.int)) (.list (mu.map encMt)) T L none none none none none none none) (irng 0 T.length) fun k hk => ⟨_, rfl, by
        have := irng_mem hk
        exact lw3_ok _ _ T L k hT (by omega) (by omega) hL⟩
      rw [← rng_irng] at go
      exact forS_rng1 (j := T.length) (by simp) (okR_of (by omega) (by omega)) go
  exact runB_rt (hb _ rfl) rfl
end K43
open PySem PySem.W PyProof.Rows
set_option maxRecDepth 100000 in
set_option maxHeartbeats 0 in
theorem PySem.Challenge.cw_watchfloor_k43_routes_blockers_holds : PySem.Challenge.rw_watchfloor_k43_routes_blockers.Holds := by
  w_on; o_law; k_head; (case hw => w_witness2)
  k_fill
  refine L2.walk_of (l := PySem.Challenge.rw_watchfloor_k43_routes_blockers) (n := 63) (k := 10) (x := "_law_script") (CX := fun w => L2.CX PySem.Challenge.rw_watchfloor_k43_routes_blockers.prog w) (sp := fun w => Pl.spL _ 1 K43.law_f) rfl (by decide) rfl ⟨rfl, by decide, by decide⟩ (fun w h Y => PySem.W.kIn_of Y) ?F (fun _ H a ns hl _ hS => Pl.law_spL hS (K43.law_true ns hl)) (fun _ _ _ _ _ ⟨_, _, _, _, _, _, _, _, _, _, _, _, z⟩ => z)
  case F =>
    intro w mg fa h KX G hmg
    refine' K43.all_mk KX G hmg ?a_value_of ?l_value_of ?c_value_of ?k_value_of ?a_matches ?l_matches ?c_matches ?k_matches ?a_matches_all ?l_matches_all ?c_matches_all ?k_matches_all ?a_later ?l_later ?c_later ?k_later ?a_way ?l_way ?c_way ?k_way ?a_choices ?l_choices ?c_choices ?k_choices ?a_count ?l_count ?c_count ?k_count ?a_sample_alerts ?l_sample_alerts ?c_sample_alerts ?k_sample_alerts ?a_matchers_of ?l_matchers_of ?c_matchers_of ?k_matchers_of ?a_considered ?l_considered ?c_considered ?k_considered ?a_lineage ?l_lineage ?c_lineage ?k_lineage ?a_rivals ?l_rivals ?c_rivals ?k_rivals ?a_gets_past ?l_gets_past ?c_gets_past ?k_gets_past ?a_blockers ?l_blockers ?c_blockers ?k_blockers ?a_survey ?l_survey ?c_survey ?k_survey ?a_law_cell ?l_law_cell ?c_law_cell ?k_law_cell ?a_law_draws ?l_law_draws ?c_law_draws ?k_law_draws ?a_law_same ?l_law_same ?c_law_same ?k_law_same ?a_law_words ?l_law_words ?c_law_words ?k_law_words ?a_law_worths ?l_law_worths ?c_law_worths ?k_law_worths ?a_law_matcher ?l_law_matcher ?c_law_matcher ?k_law_matcher ?a_law_value ?l_law_value ?c_law_value ?k_law_value ?a_law_matches ?l_law_matches ?c_law_matches ?k_law_matches ?a_law_route ?l_law_route ?c_law_route ?k_law_route ?a_law_tree ?l_law_tree ?c_law_tree ?k_law_tree ?a_law_times ?l_law_times ?c_law_times ?k_law_times ?a_law_samples ?l_law_samples ?c_law_samples ?k_law_samples ?a_law_case ?l_law_case ?c_law_case ?k_law_case ?a_law_line ?l_law_line ?c_law_line ?k_law_line ?a_law_past ?l_law_past ?c_law_past ?k_law_past ?a_law ?l_law ?c_law ?k_law ?v_MOST_SAMPLES ?xg_TooManySamples ?xb_TooManySamples ?xt_TooManySamples ?xd_TooManySamples ?xe_TooManySamples ?xk_TooManySamples ?z_all ?z_any ?z_bool ?z_enumerate ?z_int ?z_isinstance ?z_len ?z_list ?z_range ?z_sorted ?z_str ?z_tuple ?z_zip
    (case a_value_of => k_is); (case l_value_of => k_is); (case c_value_of => k_is); (case k_value_of => k_is); (case a_matches => k_is); (case l_matches => k_is); (case c_matches => k_is); (case k_matches => k_is); (case a_matches_all => k_is); (case l_matches_all => k_is); (case c_matches_all => k_is); (case k_matches_all => k_is); (case a_later => k_is); (case l_later => k_is); (case c_later => k_is); (case k_later => k_is); (case a_way => k_is); (case l_way => k_is); (case c_way => k_is); (case k_way => k_is); (case a_choices => k_is); (case l_choices => k_is); (case c_choices => k_is); (case k_choices => k_is); (case a_count => k_is); (case l_count => k_is); (case c_count => k_is); (case k_count => k_is); (case a_sample_alerts => k_is); (case l_sample_alerts => k_is); (case c_sample_alerts => k_is); (case k_sample_alerts => k_is); (case a_matchers_of => k_is); (case l_matchers_of => k_is); (case c_matchers_of => k_is); (case k_matchers_of => k_is); (case a_considered => k_is); (case l_considered => k_is); (case c_considered => k_is); (case k_considered => k_is); (case a_lineage => k_is); (case l_lineage => k_is); (case c_lineage => k_is); (case k_lineage => k_is); (case a_rivals => k_is); (case l_rivals => k_is); (case c_rivals => k_is); (case k_rivals => k_is); (case a_gets_past => k_is); (case l_gets_past => k_is); (case c_gets_past => k_is); (case k_gets_past => k_is); (case a_blockers => k_is); (case l_blockers => k_is); (case c_blockers => k_is); (case k_blockers => k_is); (case a_survey => k_is); (case l_survey => k_is); (case c_survey => k_is); (case k_survey => k_is); (case a_law_cell => k_is); (case l_law_cell => k_is); (case c_law_cell => k_is); (case k_law_cell => k_is); (case a_law_draws => k_is); (case l_law_draws => k_is); (case c_law_draws => k_is); (case k_law_draws => k_is); (case a_law_same => k_is); (case l_law_same => k_is); (case c_law_same => k_is); (case k_law_same => k_is); (case a_law_words => k_is); (case l_law_words => k_is); (case c_law_words => k_is); (case k_law_words => k_is); (case a_law_worths => k_is); (case l_law_worths => k_is); (case c_law_worths => k_is); (case k_law_worths => k_is); (case a_law_matcher => k_is); (case l_law_matcher => k_is); (case c_law_matcher => k_is); (case k_law_matcher => k_is); (case a_law_value => k_is); (case l_law_value => k_is); (case c_law_value => k_is); (case k_law_value => k_is); (case a_law_matches => k_is); (case l_law_matches => k_is); (case c_law_matches => k_is); (case k_law_matches => k_is); (case a_law_route => k_is); (case l_law_route => k_is); (case c_law_route => k_is); (case k_law_route => k_is); (case a_law_tree => k_is); (case l_law_tree => k_is); (case c_law_tree => k_is); (case k_law_tree => k_is); (case a_law_times => k_is); (case l_law_times => k_is); (case c_law_times => k_is); (case k_law_times => k_is); (case a_law_samples => k_is); (case l_law_samples => k_is); (case c_law_samples => k_is); (case k_law_samples => k_is); (case a_law_case => k_is); (case l_law_case => k_is); (case c_law_case => k_is); (case k_law_case => k_is); (case a_law_line => k_is); (case l_law_line => k_is); (case c_law_line => k_is); (case k_law_line => k_is); (case a_law_past => k_is); (case l_law_past => k_is); (case c_law_past => k_is); (case k_law_past => k_is); (case a_law => k_is); (case l_law => k_is); (case c_law => k_is); (case k_law => k_is); (case v_MOST_SAMPLES => k_is); (case xg_TooManySamples => k_is); (case xb_TooManySamples => k_is); (case xt_TooManySamples => k_is); (case xd_TooManySamples => k_is); (case xe_TooManySamples => k_exc); (case xk_TooManySamples => k_is); (case z_all => k_is); (case z_any => k_is); (case z_bool => k_is); (case z_enumerate => k_is); (case z_int => k_is); (case z_isinstance => k_is); (case z_len => k_is); (case z_list => k_is); (case z_range => k_is); (case z_sorted => k_is); (case z_str => k_is); (case z_tuple => k_is); (case z_zip => k_is)
