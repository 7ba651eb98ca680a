import PyProof.Rows.All
import Wide.All
import OpenK.AllK
import Wide.FinOn
import HandS.ForMost
import HandS.IsInst
import HandS.Deep
import HandS.TupAny
import HandS.Walk
import HandS.Flow
import HandS.Dict
import HandS.Iter
import HandS.List
import KE.KDictKeyed
import KE.KDictCopyH
import KE.KDictList
import KE.DataEq
import HandS.NoneIn
import HandS.Conv
import HandS.Style
import KE.SortData
import KE.SortCalls
import KE.KSortTup
import KE.LtSeq
import KE.LtData
import KE.GoesEnum
import PyProof.EnumFor
import HandS.Gcd
import KE.KMathGC
import HandS.ForExc
import HandS.ExcIs
import HandS.Flt
import HandS.ForDict
import HandS.More
import KE.KExcIs
import HandS.Zip
import HandS.MakeKwOnly
import HandS.FStr
import HandS.RaiseMore
import KE.DataFind
import KE.DataCmp
import PySem.Challenge.RW_watchfloor_k22_store_blocks_read_back
set_option Elab.async false
set_option linter.all false
set_option maxRecDepth 100000
set_option maxHeartbeats 4000000
/-! Pl0: dicts whose keys are tuples (nested), as things known by their one object: kdx; the hand rules for them; list(d), sorted(d) up to the sort. -/
namespace Pl
open PySem PySem.Spec PyProof.Rows L2
abbrev D := PyData

/-! ### keys -/
mutual
def nkD : D → Option NestedKey
  | .none => some .none
  | .bool _ => none
  | .int i => some (.num i)
  | .str s => some (.text s)
  | .list _ => none
  | .tuple ds => (nkAll ds).map .tup
  | .dict _ => none
def nkAll : List D → Option (List NestedKey)
  | [] => some []
  | d :: ds => match nkD d with
    | none => none
    | some k => match nkAll ds with
      | none => none
      | some ks => some (k :: ks)
end
mutual
theorem nk_data : ∀ (d : D) (k : NestedKey), nkD d = some k → k.data = d
  | .none, _, h => by unfold nkD at h; cases h; rfl
  | .bool _, _, h => by unfold nkD at h; cases h
  | .int i, _, h => by unfold nkD at h; cases h; rfl
  | .str s, _, h => by unfold nkD at h; cases h; rfl
  | .list _, _, h => by unfold nkD at h; cases h
  | .tuple ds, k, h => by
    unfold nkD at h
    obtain ⟨ks, h1, rfl⟩ := Option.map_eq_some_iff.mp h
    show PyData.tuple (NestedKey.datas ks) = _
    rw [nk_datas ds ks h1]
  | .dict _, _, h => by unfold nkD at h; cases h
theorem nk_datas : ∀ (ds : List D) (ks : List NestedKey), nkAll ds = some ks → NestedKey.datas ks = ds
  | [], _, h => by unfold nkAll at h; cases h; rfl
  | d :: ds, ks, h => by
    unfold nkAll at h
    cases e1 : nkD d with
    | none => rw [e1] at h; cases h
    | some k =>
      rw [e1] at h
      dsimp only at h
      cases e2 : nkAll ds with
      | none => rw [e2] at h; cases h
      | some ks' =>
        rw [e2] at h
        cases h
        show k.data :: NestedKey.datas ks' = _
        rw [nk_data d k e1, nk_datas ds ks' e2]
end
mutual
theorem nis_of {X : Cx} {pins : List (Addr × Obj)} {σ : L2.St} {H : Hp} {s : Shared} (I : Inv X pins σ H s) : ∀ (k : NestedKey) (v : V) (u : Value), Dp X.K H v k.data → RelV v u → NestedIs s.heap k u
  | .none, v, u, h, r => by
    have h' : Dp X.K H v .none := h
    cases h'; cases r; exact .none
  | .num i, v, u, h, r => by
    have h' : Dp X.K H v (.int i) := h
    cases h'; obtain ⟨t, rfl⟩ := r; exact .int i t
  | .text x, v, u, h, r => by
    have h' : Dp X.K H v (.str x) := h
    cases h'; obtain ⟨t, rfl⟩ := r; exact .text x t
  | .tup ks, v, u, h, r => by
    have h' : Dp X.K H v (.tuple (NestedKey.datas ks)) := h
    cases h' with
    | tup hs ha =>
      cases r
      obtain ⟨its, rv, ⟨o, ho, hc, n, hd⟩, _⟩ := I.tuple hs
      exact .tup ho hc hd (by simpa using nis_all I ks _ _ ha rv)
theorem nis_all {X : Cx} {pins : List (Addr × Obj)} {σ : L2.St} {H : Hp} {s : Shared} (I : Inv X pins σ H s) : ∀ (ks : List NestedKey) (vs : List V) (us : List Value), DpAll X.K H vs (NestedKey.datas ks) → Vals vs us → NestedAll s.heap ks us
  | [], vs, us, h, r => by
    have h' : DpAll X.K H vs [] := h
    cases h'; cases r; exact .nil
  | k :: ks, vs, us, h, r => by
    have h' : DpAll X.K H vs (k.data :: NestedKey.datas ks) := h
    cases h' with
    | cons a b =>
      cases r with
      | cons r1 r2 => exact .cons (nis_of I k _ _ a r1) (nis_all I ks _ _ b r2)
end
/-! ### the dict's object -/
abbrev KX := List (NestedKey × Addr × V)
def KRel (x : NestedKey × Addr × V) (y : NestedKey × Addr × Value) : Prop := x.1 = y.1 ∧ x.2.1 = y.2.1 ∧ RelV x.2.2 y.2.2
def entN (w : World) (x : NestedKey × Addr × Value) : DictEntry := ⟨x.1.hash w, .ref x.2.1, x.2.2⟩
def KFact (w : World) (a : Addr) (ep : Nat) (xs : KX) (h : Heap) : Prop :=
  xs.length ≤ sizeLine ∧ (a == sysModules) = false ∧ ∃ (ys : List (NestedKey × Addr × Value)) (o : Obj) (es : Array DictEntry), Paired KRel xs ys ∧ h.get? a = some o ∧ o.ExactDict ∧ o.data = .dict es ep ∧ es.toList = ys.map (entN w) ∧ (ys.map (·.1)).Nodup
def kdx (w : World) (a : Addr) (ep : Nat) (xs : KX) : HO := .ext (KFact w a ep xs)
theorem kfact_keep {w : World} {a : Addr} {ep : Nat} {xs : KX} (h1 h2 : Heap) (q : KFact w a ep xs h1) (k : ∀ o, h1.get? a = some o → h2.get? a = some o) : KFact w a ep xs h2 := by
  obtain ⟨l, n, ys, o, es, r, ho, x⟩ := q
  exact ⟨l, n, ys, o, es, r, k o ho, x⟩
theorem kfact_ok {P : Program} {w : World} {H : Hp} {h : Heap} {a : Addr} {ep : Nat} {xs : KX} (q : KFact w a ep xs h) : ObjOk P w H h a (kdx w a ep xs) := by
  obtain ⟨l, n, ys, o, es, r, ho, x⟩ := id q
  exact ⟨q, ⟨o, ho⟩, kfact_keep⟩
def KeyH (K : PySem.W.Frag) (H : Hp) (k : NestedKey) (b : Addr) : Prop := Dp K H (.ref b) k.data ∧ k.depth ≤ 8
def KD (K : PySem.W.Frag) (w : World) (H : Hp) (a : Addr) (xs : KX) : Prop := (∃ ep, H a = some (kdx w a ep xs)) ∧ ∀ x ∈ xs, KeyH K H x.1 x.2.1
def valX (xs : KX) (k : NestedKey) : Option V := (xs.find? fun x => decide (x.1 = k)).map (·.2.2)
def putX (xs : KX) (k : NestedKey) (b : Addr) (v : V) : KX :=
  if (valX xs k).isSome = true then xs.map (fun x => if x.1 = k then (x.1, x.2.1, v) else x) else xs ++ [(k, b, v)]
theorem valX_pos {p : NestedKey × Addr × V} {r : KX} {k : NestedKey} (e : p.1 = k) : valX (p :: r) k = some p.2.2 := by simp [valX, List.find?_cons, e]
theorem valX_neg {p : NestedKey × Addr × V} {r : KX} {k : NestedKey} (e : ¬ p.1 = k) : valX (p :: r) k = valX r k := by simp [valX, List.find?_cons, e]
theorem krel_val (k : NestedKey) : ∀ {xs : KX} {ys : List (NestedKey × Addr × Value)}, Paired KRel xs ys → RelO (valX xs k) ((atKey ys k).map (·.2))
  | _, _, .nil => True.intro
  | _, _, .cons (a := p) (b := q) (l₂ := qs) h t => by
    obtain ⟨h1, _, h2⟩ := h
    by_cases e : p.1 = k
    · have b : atKey (q :: qs) k = some q.2 := by simp [atKey, List.find?_cons, h1.symm.trans e]
      rw [valX_pos e, b]; exact h2
    · have b : atKey (q :: qs) k = atKey qs k := by simp [atKey, List.find?_cons, show ¬ q.1 = k from fun z => e (h1.trans z)]
      rw [valX_neg e, b]; exact krel_val k t
theorem krel_repl (k : NestedKey) {y : V} {u : Value} (ry : RelV y u) : ∀ {xs : KX} {ys : List (NestedKey × Addr × Value)}, Paired KRel xs ys →
    Paired KRel (xs.map fun x => if x.1 = k then (x.1, x.2.1, y) else x) (ys.map (putAt k u))
  | _, _, .nil => .nil
  | _, _, .cons (a := p) (b := q) h t => by
    rw [List.map_cons, List.map_cons]
    refine .cons ?_ (krel_repl k ry t)
    obtain ⟨h1, h2, h3⟩ := h
    unfold putAt
    by_cases e : p.1 = k
    · rw [if_pos e, if_pos (h1.symm.trans e)]; exact ⟨h1, h2, ry⟩
    · rw [if_neg e, if_neg (fun z => e (h1.trans z))]; exact ⟨h1, h2, h3⟩
theorem krel_put {xs : KX} {ys : List (NestedKey × Addr × Value)} (r : Paired KRel xs ys) (k : NestedKey) {b : Addr} {y : V} {u : Value} (ry : RelV y u) : Paired KRel (putX xs k b y) (storedH ys k b u) := by
  have e : (valX xs k).isSome = (atKey ys k).isSome := by rw [(krel_val k r).isSome_eq, Option.isSome_map]
  unfold putX storedH
  rw [e]
  split
  · exact krel_repl k ry r
  · exact Paired.snoc r ⟨rfl, rfl, ry⟩
theorem putX_len (xs : KX) (k : NestedKey) (b : Addr) (v : V) : (putX xs k b v).length ≤ xs.length + 1 := by
  unfold putX
  split
  · rw [List.length_map]; omega
  · rw [List.length_append, List.length_cons, List.length_nil]; omega
theorem krel_mem : ∀ {xs : KX} {ys : List (NestedKey × Addr × Value)}, Paired KRel xs ys → ∀ y ∈ ys, ∃ x ∈ xs, x.1 = y.1 ∧ x.2.1 = y.2.1
  | _, _, .nil, y, h => by cases h
  | _, _, .cons h t, y, hy => by
    rcases List.mem_cons.mp hy with rfl | hy
    · exact ⟨_, List.mem_cons_self, h.1, h.2.1⟩
    · obtain ⟨x, h1, h2⟩ := krel_mem t y hy
      exact ⟨x, List.mem_cons_of_mem _ h1, h2⟩
theorem krel_keys : ∀ {xs : KX} {ys : List (NestedKey × Addr × Value)}, Paired KRel xs ys → Vals (xs.map fun x => V.ref x.2.1) (ys.map fun y => Value.ref y.2.1)
  | _, _, .nil => .nil
  | _, _, .cons h t => .cons (by show Value.ref _ = Value.ref _; rw [h.2.1]) (krel_keys t)
section
variable {X : Cx} {pins : List (Addr × Obj)} {σ : L2.St} {H : Hp} {s : Shared} {a b : Addr} {k : NestedKey} {xs : KX} {v : V} {u r : Value} {A : Around} {E : Value → Shared → Prop}
theorem key_is (I : Inv X pins σ H s) (h : KeyH X.K H k b) : (nestedKind X.prog X.w).is s.heap k b := ⟨nis_of I k (.ref b) (.ref b) h.1 rfl, h.2⟩
theorem kd_of (I : Inv X pins σ H s) (h : KD X.K X.w H a xs) : xs.length ≤ sizeLine ∧ (a == sysModules) = false ∧ ∃ ys, Paired KRel xs ys ∧ s.heap.DictOfH (nestedKind X.prog X.w) a ys := by
  obtain ⟨⟨ep, h1⟩, h2⟩ := h
  obtain ⟨l, n, ys, o, es, r, ho, hx, hd, he, hn⟩ := (I.hok a _ h1).1
  refine ⟨l, n, ys, r, o, es, ep, ho, hx, hd, he, fun y hy => ?_, hn⟩
  obtain ⟨x, q1, q2, q3⟩ := krel_mem r y hy
  rw [← q2, ← q3]
  exact key_is I (h2 x q1)
theorem kfact_of {P : Program} {w : World} {h : Heap} {ys : List (NestedKey × Addr × Value)} (l : xs.length ≤ sizeLine) (n : (a == sysModules) = false) (r : Paired KRel xs ys) (dd : h.DictOfH (nestedKind P w) a ys) : ∃ ep, KFact w a ep xs h := by
  obtain ⟨o, es, ep, ho, hx, hd, he, _, hn⟩ := dd
  exact ⟨ep, l, n, ys, o, es, r, ho, hx, hd, he, hn⟩
theorem kd_room (hu : A.units + 65 < cLine) : (nestedKind X.prog X.w).room A.in1 := by
  show A.units + 1 + 8 < cLine
  omega
theorem kd_getItem {Q : Value → Shared → Prop} (hu : A.units + 65 < cLine) (I : Inv X pins σ H s) (g : KD X.K X.w H a xs) (hk : KeyH X.K H k b) (hv : valX xs k = some v) (h : ∀ w' s', Inv X pins σ H s' → RelV v w' → Q w' s') :
    wpAny (model X.prog X.w) A (getItem (.ref a) (.ref b)) Q E s := by
  obtain ⟨l, n, ys, r, dd⟩ := kd_of I g
  obtain ⟨w', hw, rw'⟩ := RelO.some_of (v := v) (o := (atKey ys k).map (·.2)) (by rw [← hv]; exact krel_val k r)
  obtain ⟨p, hp, hp2⟩ := Option.map_eq_some_iff.mp hw
  refine wpAny_getItem_heap (kd_room hu) (key_is I hk) dd hp ?_
  rw [hp2]
  exact h w' _ (I.tok _) rw'
theorem kd_in {Q : Value → Shared → Prop} (hu : A.units + 65 < cLine) (I : Inv X pins σ H s) (g : KD X.K X.w H a xs) (hk : KeyH X.K H k b) (h : ∀ s', Inv X pins σ H s' → Q (.bool (valX xs k).isSome) s') :
    wpAny (model X.prog X.w) A (compareOp .In (.ref b) (.ref a)) Q E s := by
  obtain ⟨l, n, ys, r, dd⟩ := kd_of I g
  refine wpAny_in_heap (kd_room hu) (key_is I hk) n dd ?_
  have q := (krel_val k r).isSome_eq
  rw [Option.isSome_map] at q
  rw [← q]
  exact h _ (I.tok _)
theorem kd_notIn {Q : Value → Shared → Prop} (hu : A.units + 65 < cLine) (I : Inv X pins σ H s) (g : KD X.K X.w H a xs) (hk : KeyH X.K H k b) (h : ∀ s', Inv X pins σ H s' → Q (.bool (!(valX xs k).isSome)) s') :
    wpAny (model X.prog X.w) A (compareOp .NotIn (.ref b) (.ref a)) Q E s := by
  obtain ⟨l, n, ys, r, dd⟩ := kd_of I g
  refine wpAny_notIn_heap (kd_room hu) (key_is I hk) n dd ?_
  have q := (krel_val k r).isSome_eq
  rw [Option.isSome_map] at q
  rw [← q]
  exact h _ (I.tok _)
theorem kd_setItem {Q : Unit → Shared → Prop} (hu : A.units + 65 < cLine) (I : Inv X pins σ H s) (g : KD X.K X.w H a xs) (hk : KeyH X.K H k b) (hl : xs.length < sizeLine) (rv : RelV v r) (h : ∀ ep s', Inv X pins σ (upd H a (kdx X.w a ep (putX xs k b v))) s' → Q () s') :
    wpAny (model X.prog X.w) A (setItem (.ref a) (.ref b) r) Q E s := by
  obtain ⟨l, n, ys, rel, dd⟩ := kd_of I g
  have hz : ys.length ≤ sizeLine := by rw [← Paired.length rel]; exact l
  have hl' : (putX xs k b v).length ≤ sizeLine := by have := putX_len xs k b v; omega
  refine wpAny_setItem_heap (hsz := hz) (kd_room hu) (key_is I hk) dd fun h' dd' hs => ?_
  obtain ⟨ep, kf⟩ := kfact_of (w := X.w) hl' n (krel_put rel k (b := b) rv) dd'
  obtain ⟨o, _, _, ho, _⟩ := dd'
  obtain ⟨⟨ep0, e0⟩, _⟩ := g
  exact h ep _ (d_write (a := a) I (by rw [e0]; exact True.intro) hs ⟨o, ho⟩ (kfact_ok kf))
theorem kd_get1 {Q : Value → Shared → Prop} (hu : A.units + 65 < cLine) (I : Inv X pins σ H s) (g : KD X.K X.w H a xs) (hk : KeyH X.K H k b) (h : ∀ w' s', Inv X pins σ H s' → RelV ((valX xs k).getD .non) w' → Q w' s') :
    wpAny (model X.prog X.w) A (call (.builtin "dict.get") [.ref a, .ref b]) Q E s := by
  obtain ⟨l, n, ys, r, dd⟩ := kd_of I g
  exact call_meetsIn PySem.F.slot_dict_get dd.typeIs PySem.F.entry_dict_get (PySem.F.args_dict_get_2 _ _) (meetsH_dict_get (nestedKind X.prog X.w) a b n) ⟨kd_room hu, k, ys, key_is I hk, dd, h _ _ (I.tok _) ((krel_val k r).getD rfl)⟩
theorem kd_get2 {y : V} {Q : Value → Shared → Prop} (hu : A.units + 65 < cLine) (I : Inv X pins σ H s) (g : KD X.K X.w H a xs) (hk : KeyH X.K H k b) (rd : RelV y r) (h : ∀ w' s', Inv X pins σ H s' → RelV ((valX xs k).getD y) w' → Q w' s') :
    wpAny (model X.prog X.w) A (call (.builtin "dict.get") [.ref a, .ref b, r]) Q E s := by
  obtain ⟨l, n, ys, rl, dd⟩ := kd_of I g
  exact call_meetsIn PySem.F.slot_dict_get dd.typeIs PySem.F.entry_dict_get (PySem.F.args_dict_get_3 _ _ _) (meetsH_dict_get_default (nestedKind X.prog X.w) a b n r) ⟨kd_room hu, k, ys, key_is I hk, dd, h _ _ (I.tok _) ((krel_val k rl).getD rd)⟩
theorem kd_type (I : Inv X pins σ H s) (g : KD X.K X.w H a xs) : s.TypeIs (.ref a) "dict" := let ⟨_, _, _, _, dd⟩ := kd_of I g; dd.typeIs
theorem kd_noDict (I : Inv X pins σ H s) (g : KD X.K X.w H a xs) : ∀ b, Value.ref a = .ref b → ∃ ob, s.heap.get? b = some ob ∧ ob.dict = none := fun b q => by
  cases q
  obtain ⟨_, _, _, _, ob, _, _, h1, h2, _⟩ := kd_of I g
  exact ⟨ob, h1, h2.2.1⟩
end
/-! ### readings and rules -/
def tKNew (w : World) : TE := fun _ H Q => ∀ p ep, H p = none → Q (.ref p) (upd H p (kdx w p ep []))
def tKGet (K : PySem.W.Frag) (w : World) (td ty : TE) : TE := fun σ H Q => td σ H fun x H1 => ty σ H1 fun y H2 => ∃ a xs k b v, x = .ref a ∧ y = .ref b ∧ KD K w H2 a xs ∧ KeyH K H2 k b ∧ valX xs k = some v ∧ Q v H2
def tKIn (K : PySem.W.Frag) (w : World) (ty td : TE) : TE := fun σ H Q => ty σ H fun y H1 => td σ H1 fun x H2 => ∃ a xs k b, x = .ref a ∧ y = .ref b ∧ KD K w H2 a xs ∧ KeyH K H2 k b ∧ Q (.bl (valX xs k).isSome) H2
def tKNotIn (K : PySem.W.Frag) (w : World) (ty td : TE) : TE := fun σ H Q => ty σ H fun y H1 => td σ H1 fun x H2 => ∃ a xs k b, x = .ref a ∧ y = .ref b ∧ KD K w H2 a xs ∧ KeyH K H2 k b ∧ Q (.bl (!(valX xs k).isSome)) H2
def sKPut (K : PySem.W.Frag) (w : World) (td ty tv : TE) : TS := fun D σ H => tv σ H fun v H1 => td σ H1 fun x H2 => ty σ H2 fun y H3 => ∃ a xs k b, x = .ref a ∧ y = .ref b ∧ KD K w H3 a xs ∧ KeyH K H3 k b ∧ xs.length < sizeLine ∧ ∀ ep, D.nx σ (upd H3 a (kdx w a ep (putX xs k b v)))
def tKGet1 (K : PySem.W.Frag) (w : World) (td ty : TE) : TE := fun σ H Q => td σ H fun x H1 => ∃ a xs, x = .ref a ∧ KD K w H1 a xs ∧ ty σ H1 fun y H2 => ∃ k b, y = .ref b ∧ KD K w H2 a xs ∧ KeyH K H2 k b ∧ Q ((valX xs k).getD .non) H2
def tKGet2 (K : PySem.W.Frag) (w : World) (td ty tx : TE) : TE := fun σ H Q => td σ H fun x H1 => ∃ a xs, x = .ref a ∧ KD K w H1 a xs ∧ ty σ H1 fun y H2 => tx σ H2 fun z H3 => ∃ k b, y = .ref b ∧ KD K w H3 a xs ∧ KeyH K H3 k b ∧ Q ((valX xs k).getD z) H3
section
variable {X : Cx} {o i e f value : Expr} {pos pos' apos cpos : Pos} {td ty tv tx : TE}
theorem pe_knew : PE X (.Dict [] [] pos) (tKNew X.w) := ⟨fun pins s σ H Q I h =>
  wpAny_Dict_empty ⟨.ref s.heap.objs.size, _, I.laid (a := s.heap.objs.size) (o := kdx X.w s.heap.objs.size 0 []) (t' := s.toks) (fun _ _ q => Heap.get?_push_of_some _ q) (Nat.le_refl _)
    (kfact_ok ⟨Nat.zero_le _, beq_eq_false_iff_ne.mpr (Ne.symm (Nat.ne_of_lt I.big)), [], _, #[], .nil, Heap.get?_push_size _ rfl, ⟨rfl, rfl, rfl⟩, rfl, rfl, List.nodup_nil⟩), rfl, h _ _ (I.hok.fresh (Nat.le_refl _))⟩⟩
theorem pe_kget (hu : X.A.units + 65 < cLine) (ho : PE X o td) (hi : PE X i ty) (hs : NoSl i) : PE X (.Subscript o i pos) (tKGet X.K X.w td ty) := by
  refine ⟨fun pins s σ H Q I h => ?_⟩
  refine subD_of PySem.F.slot_dict_getitem.lookup hs (thn (ho.run pins s σ H _ I h) fun u s1 ⟨x, H1, I1, rx, q1⟩ => thn (hi.run pins s1 σ H1 _ I1 q1) fun iv s2 ⟨y, H2, I2, ry, a, xs, k, b, v, ex, ey, g, hk, hv, q2⟩ => ?_)
  subst ex ey
  obtain rfl : u = Value.ref a := rx
  obtain rfl : iv = Value.ref b := ry
  exact ⟨kd_type I2 g, kd_getItem hu I2 g hk hv fun w' s3 I3 rw' => ⟨v, H2, I3, rw', q2⟩⟩
theorem pc_kin (hu : X.A.units + 65 < cLine) (hi : PE X i ty) (ho : PE X o td) : PC X .In i o (tKIn X.K X.w ty td) := by
  refine ⟨fun pins s σ H Q I h => ?_⟩
  refine thn (hi.run pins s σ H _ I h) fun iv s1 ⟨y, H1, I1, ry, q1⟩ => thn (ho.run pins s1 σ H1 _ I1 q1) fun u s2 ⟨x, H2, I2, rx, a, xs, k, b, ex, ey, g, hk, q2⟩ => ?_
  subst ex ey
  obtain rfl : u = Value.ref a := rx
  obtain rfl : iv = Value.ref b := ry
  exact kd_in hu I2 g hk fun s3 I3 => ⟨.bl (valX xs k).isSome, H2, I3, rfl, q2⟩
theorem pc_knotin (hu : X.A.units + 65 < cLine) (hi : PE X i ty) (ho : PE X o td) : PC X .NotIn i o (tKNotIn X.K X.w ty td) := by
  refine ⟨fun pins s σ H Q I h => ?_⟩
  refine thn (hi.run pins s σ H _ I h) fun iv s1 ⟨y, H1, I1, ry, q1⟩ => thn (ho.run pins s1 σ H1 _ I1 q1) fun u s2 ⟨x, H2, I2, rx, a, xs, k, b, ex, ey, g, hk, q2⟩ => ?_
  subst ex ey
  obtain rfl : u = Value.ref a := rx
  obtain rfl : iv = Value.ref b := ry
  exact kd_notIn hu I2 g hk fun s3 I3 => ⟨.bl (!(valX xs k).isSome), H2, I3, rfl, q2⟩
theorem ps_kput (hu : X.A.units + 65 < cLine) (ho : PE X o td) (hi : PE X i ty) (hv : PE X value tv) (hs : swapsWith value (some (.Subscript o i pos')) pos.line X.env = pure false) :
    PS X (.Assign [.Subscript o i pos'] value pos) (sKPut X.K X.w td ty tv) := by
  refine ⟨fun pins s σ H D I h => ?_⟩
  refine wpAny_Assign_Subscript (thn (hv.run pins s σ H _ I h) fun r s1 ⟨v, H1, I1, rv, q1⟩ => thn (ho.run pins s1 σ H1 _ I1 q1) fun u s2 ⟨x, H2, I2, rx, q2⟩ => thn (hi.run pins s2 σ H2 _ I2 q2) fun iv s3 ⟨y, H3, I3, ry, a, xs, k, b, ex, ey, g, hk, hl, q3⟩ => ?_) hs
  subst ex ey
  obtain rfl : u = Value.ref a := rx
  obtain rfl : iv = Value.ref b := ry
  exact kd_setItem hu I3 g hk hl rv fun ep s4 I4 => ⟨σ, _, I4, q3 ep⟩
theorem pe_kget1 (hu : X.A.units + 65 < cLine) (ho : PE X o td) (he : PE X e ty) (m : M1 X o "get" apos e cpos) : PE X (.Call (.Attribute o "get" apos) [e] [] cpos) (tKGet1 X.K X.w td ty) := by
  refine ⟨fun pins s σ H Q I h => ?_⟩
  refine wpAny_Call_method m.base m.few m.line PySem.F.plainAttrs_dict PySem.F.slot_dict_get PySem.F.type_dict_get (thn (ho.run pins s σ H _ I h) fun u s1 ⟨x, H1, I1, rx, a, xs, ex, d, q1⟩ => ?_)
  subst ex
  obtain rfl : u = Value.ref a := rx
  refine ⟨kd_type I1 d, kd_noDict I1 d, ?_⟩
  rw [m.trees]
  refine Calls.callWith_builtin rfl (Calls.evalArgs_plain (Calls.spliced_cons (thn (he.run pins s1 σ H1 _ I1 q1) fun iv s2 ⟨y, H2, I2, ry, k, b, ey, g, hk, q2⟩ => Calls.spliced_nil ?_)))
  subst ey
  obtain rfl : iv = Value.ref b := ry
  exact kd_get1 hu I2 g hk fun w' s3 I3 rw' => ⟨_, H2, I3, rw', q2⟩
theorem pe_kget2 (hu : X.A.units + 65 < cLine) (ho : PE X o td) (he : PE X e ty) (hf : PE X f tx) (m : M2 X o "get" apos e f cpos) : PE X (.Call (.Attribute o "get" apos) [e, f] [] cpos) (tKGet2 X.K X.w td ty tx) := by
  refine ⟨fun pins s σ H Q I h => ?_⟩
  refine wpAny_Call_method m.base m.few m.line PySem.F.plainAttrs_dict PySem.F.slot_dict_get PySem.F.type_dict_get (thn (ho.run pins s σ H _ I h) fun u s1 ⟨x, H1, I1, rx, a, xs, ex, d, q1⟩ => ?_)
  subst ex
  obtain rfl : u = Value.ref a := rx
  refine ⟨kd_type I1 d, kd_noDict I1 d, ?_⟩
  rw [m.trees]
  refine Calls.callWith_builtin rfl (Calls.evalArgs_plain (Calls.spliced_cons (thn (he.run pins s1 σ H1 _ I1 q1) fun iv s2 ⟨y, H2, I2, ry, q2⟩ =>
    Calls.spliced_cons (thn (hf.run pins s2 σ H2 _ I2 q2) fun fv s3 ⟨z, H3, I3, rz, k, b, ey, g, hk, q3⟩ => Calls.spliced_nil ?_))))
  subst ey
  obtain rfl : iv = Value.ref b := ry
  exact kd_get2 hu I3 g hk rz fun w' s4 I4 rw' => ⟨_, H3, I4, rw', q3⟩
end
/-! ### a walk over the keys -/
def Itx (w : World) (d : Addr) (ep : Nat) (xs : KX) : It :=
  ⟨fun i H => H d = some (kdx w d ep xs) ∧ i < xs.length, fun i H x H' => H' = H ∧ ∃ y, xs[i]? = some y ∧ x = .ref y.2.1, fun i H => H d = some (kdx w d ep xs) ∧ xs.length ≤ i⟩
theorem krel_at : ∀ {xs : KX} {ys : List (NestedKey × Addr × Value)} {i : Nat} {x : NestedKey × Addr × V}, Paired KRel xs ys → xs[i]? = some x → ∃ y, ys[i]? = some y ∧ KRel x y := fun r e => paired_get r e
theorem turn_kd {P : Program} {w : World} {K : PySem.W.Frag} {tg : Expr} {d : Addr} {ep : Nat} {xs : KX} (it : Addr) : Turn P w K tg (Itx w d ep xs) [it] it (fun i h => h.IsKeyIter it d i xs.length ep) where
  mem := by simp
  obj := fun i h st b hb => by
    have e : b = it := by simpa using hb
    subst e
    obtain ⟨oi, e, c, dd⟩ := st
    exact ⟨oi, e, fun v z => by rw [dd] at z; cases z⟩
  keep := fun i h h' st k => st.at fun oi e => k it (by simp) oi e
  item := by
    intro X hP hw hK hc i pins s σ H E I hf st hg
    subst hP hw hK
    obtain ⟨hd, hi⟩ := hg
    obtain ⟨f0, f1, f2, f3, f4, f5⟩ := hf it (by simp)
    obtain ⟨l, n, ys, o, es, r, ho, hx, hdt, he, hn⟩ := (I.hok d _ hd).1
    have hsz : es.size = xs.length := by rw [← Array.length_toList, he, List.length_map, ← Paired.length r]
    obtain ⟨x, hxi⟩ : ∃ x, xs[i]? = some x := ⟨xs[i], List.getElem?_eq_getElem hi⟩
    obtain ⟨y, hy, k1, k2, k3⟩ := krel_at r hxi
    have hen : es[i]? = some (entN X.w y) := by rw [← Array.getElem?_toList, he, List.getElem?_map, hy]; rfl
    refine next_key_item st ho hdt hsz hen fun h' st' sb => ?_
    have I1 : Inv X pins σ H { s with heap := h' } := I.turned (t' := s.toks) (fun b ob hb e => (sb.2 b hb).trans e) f0 f1 f3 f4 f5
    obtain ⟨oi, e, c, dd⟩ := id st'
    exact ⟨.ref y.2.1, rfl, go_of (s := { s with heap := h' }) e c dd (by decide) ⟨.ref x.2.1, H, I1, by show Value.ref _ = Value.ref _; rw [k2], ⟨rfl, x, hxi, rfl⟩, st', fun b hb => (hf b hb).1⟩⟩
  done := by
    intro X hP hw hK hc i pins s σ H E I hf st hg
    subst hP hw hK
    obtain ⟨hd, hi⟩ := hg
    obtain ⟨f0, f1, f2, f3, f4, f5⟩ := hf it (by simp)
    obtain ⟨l, n, ys, o, es, r, ho, hx, hdt, he, hn⟩ := (I.hok d _ hd).1
    have hsz : es.size = xs.length := by rw [← Array.length_toList, he, List.length_map, ← Paired.length r]
    exact next_key_end (I.ok.hd hc) st ho hdt hsz hi fun h' eb => ⟨rfl, I.turned (t' := s.toks) (fun b ob hb e => eb b ob hb e) f0 f1 f3 f4 f5⟩
  self := fun A i s Q E st h => wpAny_pyIter_keyiter st h
def iKKeys (w : World) (td : TE) : TI := fun σ H R => td σ H fun x H1 => ∃ d ep xs, x = .ref d ∧ H1 d = some (kdx w d ep xs) ∧ R (Itx w d ep xs) H1
theorem pi_kkeys {X : Cx} {tg e : Expr} {td : TE} (he : PE X e td) : PI X tg e (iKKeys X.w td) := by
  refine ⟨fun pins s σ H R I h => ?_⟩
  refine thn (he.run pins s σ H _ I h) fun u s1 ⟨x, H1, I1, rx, d, ep, xs, ex, hd, q⟩ => ?_
  subst ex
  obtain rfl : u = Value.ref d := rx
  obtain ⟨l, n, ys, o, es, r, ho, hx, hdt, hes, hn⟩ := (I1.hok d _ hd).1
  have hsz : es.size = xs.length := by rw [← Array.length_toList, hes, List.length_map, ← Paired.length r]
  refine iter_keys n ho hx hdt (pi_one (tk := s1.toks) I1 _ (turn_kd _) ⟨_, Heap.get?_push_size _ rfl, rfl, ?_⟩ q)
  rw [hsz] <;> rfl
theorem walk_kd {w : World} {d : Addr} {ep : Nat} {xs : KX} : Walk (Itx w d ep xs) xs.length (fun H => H d = some (kdx w d ep xs)) (fun i H x H' => H' = H ∧ ∃ y, xs[i]? = some y ∧ x = .ref y.2.1) :=
  ⟨fun _ _ hi q => ⟨q, hi⟩, fun _ q => ⟨q, Nat.le_refl _⟩, fun _ _ _ _ _ _ y => y⟩
/-! ### the keys as a row: list(d), sorted(d) -/
def KRow (w : World) (H : Hp) (a : Addr) (ks : List V) : Prop := (∃ kvs : List (Key × V), Rd H a (.dK kvs) ∧ ks = kvs.map fun kv => kV kv.1) ∨ ∃ ep xs, H a = some (kdx w a ep xs) ∧ ks = xs.map fun x => V.ref x.2.1
end Pl
/-! Pl: a pure layer. Each reading t of the hand layer gets a plain function f over data; Sem c t f says: where f answers, t is shown. -/
namespace Pl
open PySem PySem.Spec PyProof.Rows L2

inductive R (α : Type) where
  | ok (a : α) | ex (c : Nat) (as : List D) | bad
def R.bind {α β : Type} (x : R α) (f : α → R β) : R β := match x with
  | .ok a => f a | .ex c as => .ex c as | .bad => .bad
instance : Monad R where
  pure := R.ok
  bind := R.bind
@[simp] theorem ok_bind {α β : Type} (a : α) (f : α → R β) : (R.ok a >>= f) = f a := rfl
@[simp] theorem ex_bind {α β : Type} (c : Nat) (as : List D) (f : α → R β) : (R.ex c as >>= f) = R.ex c as := rfl
@[simp] theorem bad_bind {α β : Type} (f : α → R β) : ((R.bad : R α) >>= f) = R.bad := rfl
@[simp] theorem pure_R {α : Type} (a : α) : (pure a : R α) = R.ok a := rfl
theorem bind_assoc' {α β γ : Type} (x : R α) (f : α → R β) (g : β → R γ) : ((x >>= f) >>= g) = (x >>= fun a => f a >>= g) := by cases x <;> rfl

inductive SV where
  | d (x : D) | ol (xs : List D) | od (kvs : List (Key × D)) | pin (xs : List D) | exn (n : Nat) (as : List D) | pd (kvs : List (Key × D)) | kd (kvs : List (NestedKey × D)) | sk (kvs : List (NestedKey × D)) | sd (kvs : List (Key × D)) | so (C : Str) (fs : List (Str × D)) | oi (C : Str) (fs : List (Str × D)) | rw (b : Bool) (C : Str) (fs : List (Str × D)) (xs : List D)
def SV.own : SV → Bool
  | .d _ => false
  | .pin _ => false
  | .exn _ _ => false
  | .pd _ => false
  | .sk _ => false
  | .sd _ => false
  | .so _ _ => false
  | .rw _ _ _ _ => false
  | _ => true
def SV.npin : SV → Bool
  | .pin _ => false
  | .oi _ _ => false
  | .exn _ _ => false
  | .pd _ => false
  | _ => true
abbrev En := List (Option SV)
inductive Fl where
  | nx (ρ : En) | rt (r : SV) | bk (ρ : En) | ct (ρ : En)

/-! ### heaps -/
structure Ext (Hf H Hf' H' : Hp) : Prop where
  f : Same Hf Hf'
  h : Same H H'
  i : Same Hf' H'
  n : ∀ p, Hf' p ≠ none → Hf p ≠ none ∨ H p = none
theorem Ext.refl {Hf H : Hp} (i : Same Hf H) : Ext Hf H Hf H := ⟨.refl _, .refl _, i, fun _ h => .inl h⟩
theorem Ext.trans {A B C D' E F : Hp} (x : Ext A B C D') (y : Ext C D' E F) : Ext A B E F :=
  ⟨x.f.trans y.f, x.h.trans y.h, y.i, fun p h => by
    rcases y.n p h with z | z
    · exact x.n p z
    · exact .inr (x.h.free z)⟩
theorem sqT_mono {K : PySem.W.Frag} {H H' : Hp} {a : Addr} {xs : List V} (e : Same H H') (h : SqT K H a xs) : SqT K H' a xs := by
  rcases h with (h | ⟨o, h⟩) | h
  · exact .inl (.inl (e _ _ h))
  · exact .inl (.inr ⟨o, e _ _ h⟩)
  · exact .inr h
mutual
theorem dp_mono {K : PySem.W.Frag} {H H' : Hp} (e : Same H H') : ∀ {d : D} {v : V}, Dp K H v d → Dp K H' v d
  | .none, _, h => by cases h; exact .non
  | .bool b, _, h => by cases h; exact .bl b
  | .int i, _, h => by cases h; exact .int i
  | .str x, _, h => by cases h; exact .str x
  | .list ds, _, h => by
    cases h with
    | lst h1 h2 => exact .lst (e.seq h1) (dpAll_mono e h2)
  | .tuple ds, _, h => by
    cases h with
    | tup h1 h2 => exact .tup (sqT_mono e h1) (dpAll_mono e h2)
  | .dict _, _, h => by cases h
theorem dpAll_mono {K : PySem.W.Frag} {H H' : Hp} (e : Same H H') : ∀ {ds : List D} {vs : List V}, DpAll K H vs ds → DpAll K H' vs ds
  | [], _, h => by cases h; exact .nil
  | d :: ds, _, h => by
    cases h with
    | cons h1 h2 => exact .cons (dp_mono e h1) (dpAll_mono e h2)
end
theorem dpAll_len {K : PySem.W.Frag} {H : Hp} : ∀ {vs : List V} {ds : List D}, DpAll K H vs ds → vs.length = ds.length
  | _, _, .nil => rfl
  | _, _, .cons _ t => by simp [dpAll_len t]
theorem dpAll_get {K : PySem.W.Frag} {H : Hp} : ∀ {vs : List V} {ds : List D} {i : Nat} {d : D}, DpAll K H vs ds → ds[i]? = some d → ∃ v, vs[i]? = some v ∧ Dp K H v d
  | _, _, _, _, .nil, e => by simp at e
  | _, _, 0, _, .cons r _, e => by simp at e; subst e; exact ⟨_, rfl, r⟩
  | _, _, i + 1, _, .cons _ t, e => by
    obtain ⟨v, h1, h2⟩ := dpAll_get (i := i) t (by simpa using e)
    exact ⟨v, by simpa using h1, h2⟩
theorem dpAll_getV {K : PySem.W.Frag} {H : Hp} : ∀ {vs : List V} {ds : List D} {i : Nat} {v : V}, DpAll K H vs ds → vs[i]? = some v → ∃ d, ds[i]? = some d ∧ Dp K H v d
  | _, _, _, _, .nil, e => by simp at e
  | _, _, 0, _, .cons r _, e => by simp at e; subst e; exact ⟨_, rfl, r⟩
  | _, _, i + 1, _, .cons _ t, e => by
    obtain ⟨v, h1, h2⟩ := dpAll_getV (i := i) t (by simpa using e)
    exact ⟨v, by simpa using h1, h2⟩
theorem dpAll_append {K : PySem.W.Frag} {H : Hp} : ∀ {vs ws : List V} {ds es : List D}, DpAll K H vs ds → DpAll K H ws es → DpAll K H (vs ++ ws) (ds ++ es)
  | _, _, _, _, .nil, s => s
  | _, _, _, _, .cons r t, s => .cons r (dpAll_append t s)
theorem dpAll_take {K : PySem.W.Frag} {H : Hp} : ∀ {vs : List V} {ds : List D} (n : Nat), DpAll K H vs ds → DpAll K H (vs.take n) (ds.take n)
  | _, _, 0, _ => .nil
  | _, _, _ + 1, .nil => .nil
  | _, _, n + 1, .cons r t => .cons r (dpAll_take n t)
theorem dpAll_drop {K : PySem.W.Frag} {H : Hp} : ∀ {vs : List V} {ds : List D} (n : Nat), DpAll K H vs ds → DpAll K H (vs.drop n) (ds.drop n)
  | _, _, 0, r => r
  | _, _, _ + 1, .nil => .nil
  | _, _, n + 1, .cons _ t => dpAll_drop n t
theorem dpAll_set {K : PySem.W.Frag} {H : Hp} {v : V} {d : D} (r : Dp K H v d) : ∀ {vs : List V} {ds : List D} (i : Nat), DpAll K H vs ds → DpAll K H (vs.set i v) (ds.set i d)
  | _, _, _, .nil => .nil
  | _, _, 0, .cons _ t => .cons r t
  | _, _, i + 1, .cons q t => .cons q (dpAll_set r i t)
theorem dpAll_ints {K : PySem.W.Frag} {H : Hp} : ∀ ns : List Int, DpAll K H (ns.map V.int) (ns.map PyData.int)
  | [] => .nil
  | n :: r => .cons (.int n) (dpAll_ints r)
theorem upd_grow {H : Hp} {p : Addr} {o : HO} (h : H p = none) : Same H (upd H p o) := fun b x e => by
  rw [upd_ne (ne_of_none e h)]
  exact e
theorem upd_both {Hf H : Hp} {p : Addr} {o : HO} (i : Same Hf H) : Same (upd Hf p o) (upd H p o) := fun b x e => by
  by_cases hb : b = p
  · subst hb; rw [upd_same] at e ⊢; exact e
  · rw [upd_ne hb] at e ⊢; exact i _ _ e

/-! ### what a value is worth -/
def DpKV (K : PySem.W.Frag) (Hf : Hp) : List (Key × V) → List (Key × D) → Prop := Paired fun a b => a.1 = b.1 ∧ Dp K Hf a.2 b.2
/-- the written part, and the exception that an except suite holds: where it lies, its own dict, its fields' names -/
structure Exi where
  n : Nat
  a : Addr
  d : Option (Addr × List Str)
structure Kx where
  k : PySem.W.Frag
  x : Exi
  w : World
instance : Coe Kx PySem.W.Frag := ⟨Kx.k⟩
/-- what the held exception's fields are -/
def ExFs (K : Kx) (Hf H : Hp) (as : List D) : Prop := match K.x.d with
  | none => as = []
  | some (d, fs) => ∃ vs, H d = some (.xd (fs.zip vs)) ∧ fs.length = vs.length ∧ DpAll K.k Hf vs as
theorem ExFs.grow {K : Kx} {Hf H Hf' H' : Hp} {as : List D} (x : Ext Hf H Hf' H') (h : ExFs K Hf H as) : ExFs K Hf' H' as := by
  unfold ExFs at h ⊢
  split at h
  · exact h
  · obtain ⟨vs, h1, h2, h3⟩ := h
    exact ⟨vs, x.h _ _ h1, h2, dpAll_mono x.f h3⟩
/-- a list is written anew -/
theorem ExFs.upd {K : Kx} {Hf H : Hp} {as : List D} {p : Addr} {xs ys : List V} (hp : H p = some (.lst xs)) (h : ExFs K Hf H as) : ExFs K Hf (upd H p (.lst ys)) as := by
  unfold ExFs at h ⊢
  split at h
  · exact h
  · obtain ⟨vs, h1, h2, h3⟩ := h
    exact ⟨vs, by rw [upd_ne (fun z => by subst z; rw [hp] at h1; cases h1)]; exact h1, h2, h3⟩
theorem ExFs.thaw {K : Kx} {Hf Hf' H : Hp} {as : List D} (f : Same Hf Hf') (h : ExFs K Hf H as) : ExFs K Hf' H as := by
  unfold ExFs at h ⊢
  split at h
  · exact h
  · obtain ⟨vs, h1, h2, h3⟩ := h
    exact ⟨vs, h1, h2, dpAll_mono f h3⟩
/-- an entry of a dict keyed by tuples -/
def KdR (K : PySem.W.Frag) (Hf : Hp) (x : NestedKey × Addr × V) (kv : NestedKey × D) : Prop := x.1 = kv.1 ∧ KeyH K Hf x.1 x.2.1 ∧ Dp K Hf x.2.2 kv.2
theorem kdr_mono {K : PySem.W.Frag} {Hf Hf' : Hp} (e : Same Hf Hf') {xs : KX} {kvs : List (NestedKey × D)} (h : Paired (KdR K Hf) xs kvs) : Paired (KdR K Hf') xs kvs := Paired.mapP h fun _ _ q => ⟨q.1, ⟨dp_mono e q.2.1.1, q.2.1.2⟩, dp_mono e q.2.2⟩
/-- the fields of an own instance -/
def FsR (K : PySem.W.Frag) (Hf : Hp) : List (Str × V) → List (Str × D) → Prop := Paired fun a b => a.1 = b.1 ∧ Dp K Hf a.2 b.2
theorem fsr_mono {K : PySem.W.Frag} {Hf Hf' : Hp} (e : Same Hf Hf') {us : List (Str × V)} {fs : List (Str × D)} (h : FsR K Hf us fs) : FsR K Hf' us fs := Paired.mapP h fun _ _ q => ⟨q.1, dp_mono e q.2⟩
/-- where the class of this name of the text lies -/
def clsAt (K : PySem.W.Frag) (C : Str) : Addr := match PySem.W.nsIn K mainGlobals C with
  | some (some (.ref a)) => a
  | _ => 0
theorem clsAt_of {K : PySem.W.Frag} {C : Str} {a : Addr} (h : PySem.W.nsIn K mainGlobals C = some (some (.ref a))) : clsAt K C = a := by unfold clsAt; rw [h]
/-- a shared tuple (or list) whose first part is an instance, the rest data -/
def RwR (K : PySem.W.Frag) (Hf : Hp) (v : V) (b : Bool) (C : Str) (fs : List (Str × D)) (xs : List D) : Prop := ∃ p q dx us vs, v = .ref p ∧ Hf p = some (if b = true then .tup (.ref q :: vs) else .lst (.ref q :: vs)) ∧ Hf q = some (.ins (clsAt K C) dx us) ∧ FsR K Hf us fs ∧ DpAll K Hf vs xs
theorem RwR.mono {K : PySem.W.Frag} {Hf Hf' : Hp} {v : V} {b : Bool} {C : Str} {fs : List (Str × D)} {xs : List D} (x : Same Hf Hf') : RwR K Hf v b C fs xs → RwR K Hf' v b C fs xs
  | ⟨p, q, dx, us, vs, e, h1, h2, h3, h4⟩ => ⟨p, q, dx, us, vs, e, x _ _ h1, x _ _ h2, fsr_mono x h3, dpAll_mono x h4⟩
def RepR (K : Kx) (Hf H : Hp) (v : V) : SV → Prop
  | .d x => Dp K Hf v x
  | .ol xs => ∃ p vs, v = .ref p ∧ H p = some (.lst vs) ∧ Hf p = none ∧ DpAll K Hf vs xs
  | .od kvs => ∃ p kws, v = .ref p ∧ H p = some (.dK kws) ∧ Hf p = none ∧ DpKV K Hf kws kvs
  | .pin xs => ∃ p vs, v = .ref p ∧ H p = some (.lst vs) ∧ Hf p = none ∧ DpAll K Hf vs xs
  | .exn n as => n = K.x.n ∧ v = .ref K.x.a ∧ ExFs K Hf H as
  | .pd kvs => ∃ p kws o, v = .ref p ∧ Hf p = some (.frz o (.dK kws)) ∧ DpKV K Hf kws kvs
  | .kd kvs => ∃ p ep xs, v = .ref p ∧ H p = some (kdx K.w p ep xs) ∧ Hf p = none ∧ Paired (KdR K Hf) xs kvs
  | .sk kvs => ∃ p ep xs, v = .ref p ∧ Hf p = some (kdx K.w p ep xs) ∧ Paired (KdR K Hf) xs kvs
  | .sd kvs => ∃ p kws, v = .ref p ∧ Hf p = some (.dK kws) ∧ DpKV K Hf kws kvs
  | .so C fs => ∃ p dx us, v = .ref p ∧ Hf p = some (.ins (clsAt K.k C) dx us) ∧ FsR K Hf us fs
  | .rw b C fs xs => RwR K Hf v b C fs xs
  | .oi C fs => ∃ p dx us, v = .ref p ∧ H p = some (.ins (clsAt K.k C) dx us) ∧ Hf p = none ∧ FsR K Hf us fs ∧ p = K.x.a
theorem Ext.still {Hf H Hf' H' : Hp} {p : Addr} {o : HO} (x : Ext Hf H Hf' H') (h1 : H p = some o) (h2 : Hf p = none) : Hf' p = none := by
  cases q : Hf' p with
  | none => rfl
  | some o' =>
    rcases x.n p (by rw [q]; exact fun z => nomatch z) with z | z
    · exact absurd h2 z
    · rw [h1] at z; cases z
theorem RepR.grow {K : Kx} {Hf H Hf' H' : Hp} {v : V} (x : Ext Hf H Hf' H') : ∀ {r : SV}, RepR K Hf H v r → RepR K Hf' H' v r
  | .d _, h => dp_mono x.f h
  | .ol _, ⟨p, vs, e, h1, h2, h3⟩ => ⟨p, vs, e, x.h _ _ h1, x.still h1 h2, dpAll_mono x.f h3⟩
  | .od _, ⟨p, vs, e, h1, h2, h3⟩ => ⟨p, vs, e, x.h _ _ h1, x.still h1 h2, Paired.mapP h3 fun _ _ q => ⟨q.1, dp_mono x.f q.2⟩⟩
  | .pin _, ⟨p, vs, e, h1, h2, h3⟩ => ⟨p, vs, e, x.h _ _ h1, x.still h1 h2, dpAll_mono x.f h3⟩
  | .exn _ _, ⟨n, e, h⟩ => ⟨n, e, h.grow x⟩
  | .pd _, ⟨p, vs, o, e, h1, h3⟩ => ⟨p, vs, o, e, x.f _ _ h1, Paired.mapP h3 fun _ _ q => ⟨q.1, dp_mono x.f q.2⟩⟩
  | .kd _, ⟨p, ep, vs, e, h1, h2, h3⟩ => ⟨p, ep, vs, e, x.h _ _ h1, x.still h1 h2, kdr_mono x.f h3⟩
  | .sk _, ⟨p, ep, vs, e, h1, h3⟩ => ⟨p, ep, vs, e, x.f _ _ h1, kdr_mono x.f h3⟩
  | .sd _, ⟨p, vs, e, h1, h3⟩ => ⟨p, vs, e, x.f _ _ h1, Paired.mapP h3 fun _ _ q => ⟨q.1, dp_mono x.f q.2⟩⟩
  | .so _ _, ⟨p, dx, vs, e, h1, h3⟩ => ⟨p, dx, vs, e, x.f _ _ h1, fsr_mono x.f h3⟩
  | .rw _ _ _ _, h => h.mono x.f
  | .oi _ _, ⟨p, dx, vs, e, h1, h2, h3, h4⟩ => ⟨p, dx, vs, e, x.h _ _ h1, x.still h1 h2, fsr_mono x.f h3, h4⟩

/-- where a frame began: the shared heap, and where its pinned lists lie -/
structure Bs where
  h : Hp
  fx : Nat → V
instance : Coe Bs Hp := ⟨Bs.h⟩
structure EnvOk (K : Kx) (B : Bs) (H0 Hf H : Hp) (σ : L2.St) (ρ : En) : Prop where
  ext : Ext B.h H0 Hf H
  len : σ.length = ρ.length
  sl : ∀ (i : Nat) (r : SV), ρ[i]? = some (some r) → ∃ v, σ[i]? = some (some v) ∧ RepR K Hf H v r
  new : ∀ (i : Nat) (r : SV) (p : Addr), ρ[i]? = some (some r) → r.own = true → σ[i]? = some (some (.ref p)) → H0 p = none
  sep : ∀ (i j : Nat) (ri rj : SV) (p : Addr), ρ[i]? = some (some ri) → ri.own = true → ρ[j]? = some (some rj) → rj.own = true → σ[i]? = some (some (.ref p)) → σ[j]? = some (some (.ref p)) → i = j
  pin : ∀ (i : Nat) (xs : List D), ρ[i]? = some (some (.pin xs)) → ∃ p o, B.fx i = .ref p ∧ σ[i]? = some (some (.ref p)) ∧ H0 p = some o ∧ B.h p = none
theorem EnvOk.i {K : Kx} {B : Bs} {H0 Hf H : Hp} {σ : L2.St} {ρ : En} (I : EnvOk K B H0 Hf H σ ρ) : Same Hf H := I.ext.i
theorem EnvOk.grow {K : Kx} {B : Bs} {H0 Hf H Hf' H' : Hp} {σ : L2.St} {ρ : En} (I : EnvOk K B H0 Hf H σ ρ) (x : Ext Hf H Hf' H') : EnvOk K B H0 Hf' H' σ ρ :=
  ⟨I.ext.trans x, I.len, fun i r e => let ⟨v, h1, h2⟩ := I.sl i r e; ⟨v, h1, h2.grow x⟩, I.new, I.sep, I.pin⟩

/-! ### outcomes -/
structure Ct where
  K : Kx
  cm : Nat → Addr × List Str
  E : XK
def ExRep (c : Ct) (Hf H : Hp) (n : Nat) (od : Option Addr) (as : List D) : Prop :=
  match od with
  | none => as = [] ∧ (c.cm n).2 = []
  | some d => (c.cm n).2 ≠ [] ∧ ∃ vs, H d = some (.xd ((c.cm n).2.zip vs)) ∧ (c.cm n).2.length = vs.length ∧ DpAll c.K Hf vs as
def ExW (c : Ct) (Hf H : Hp) (n : Nat) (as : List D) : Prop := ∀ Hf' H' od, Ext Hf H Hf' H' → ExRep c Hf' H' n od as → c.E (.ref (c.cm n).1) od H'
theorem ExW.grow {c : Ct} {Hf H Hf' H' : Hp} {n : Nat} {as : List D} (h : ExW c Hf H n as) (x : Ext Hf H Hf' H') : ExW c Hf' H' n as := fun _ _ od y r => h _ _ od (x.trans y) r
/-- an answer of any kind: ok a is told by G -/
def Out {α : Type} (c : Ct) (Hf H : Hp) (x : R α) (G : α → Prop) : Prop := match x with
  | .ok a => G a
  | .ex n as => ExW c Hf H n as
  | .bad => False
def GE (c : Ct) (b : Bool) (Hf H : Hp) (Q : VK) (r : SV) : Prop := ∀ v Hf' H', Ext Hf H Hf' H' → RepR c.K Hf' H' v r → (b = true → r.own = true → ∀ p, v = .ref p → H p = none) → Q v H'
def GT (Hf H : Hp) (Q : Bool → Hp → Prop) (b : Bool) : Prop := ∀ Hf' H', Ext Hf H Hf' H' → Q b H'
def GA (c : Ct) (Hf H : Hp) (Q : List V → Hp → Prop) (ds : List D) : Prop := ∀ vs Hf' H', Ext Hf H Hf' H' → DpAll c.K Hf' vs ds → Q vs H'
theorem GE.grow {c : Ct} {b : Bool} {Hf H Hf' H' : Hp} {Q : VK} {r : SV} (h : GE c b Hf H Q r) (x : Ext Hf H Hf' H') : GE c b Hf' H' Q r :=
  fun v _ _ y q f => h v _ _ (x.trans y) q fun hb ho p e => x.h.free (f hb ho p e)
theorem GT.grow {Hf H Hf' H' : Hp} {Q : Bool → Hp → Prop} {b : Bool} (h : GT Hf H Q b) (x : Ext Hf H Hf' H') : GT Hf' H' Q b := fun _ _ y => h _ _ (x.trans y)
theorem GA.grow {c : Ct} {Hf H Hf' H' : Hp} {Q : List V → Hp → Prop} {ds : List D} (h : GA c Hf H Q ds) (x : Ext Hf H Hf' H') : GA c Hf' H' Q ds := fun vs _ _ y q => h vs _ _ (x.trans y) q
theorem Out.mono {α : Type} {c : Ct} {Hf H : Hp} {x : R α} {G G' : α → Prop} (h : Out c Hf H x G) (k : ∀ a, x = .ok a → G a → G' a) : Out c Hf H x G' := by
  cases x with
  | ok a => exact k a rfl h
  | ex n as => exact h
  | bad => exact h
theorem Out.grow {α : Type} {c : Ct} {Hf H Hf' H' : Hp} {x : R α} {G G' : α → Prop} (h : Out c Hf H x G) (e : Ext Hf H Hf' H') (k : ∀ a, G a → G' a) : Out c Hf' H' x G' := by
  cases x with
  | ok a => exact k a h
  | ex n as => exact ExW.grow h e
  | bad => exact h
/-- two steps: the first one's answer is handed on -/
theorem Out.bind {α β : Type} {c : Ct} {Hf H : Hp} {x : R α} {k : α → R β} {G : β → Prop} {G1 : α → Prop} (h : Out c Hf H (x >>= k) G) (hk : ∀ a, x = .ok a → Out c Hf H (k a) G → G1 a) : Out c Hf H x G1 := by
  cases x with
  | ok a => exact hk a rfl h
  | ex n as => exact h
  | bad => exact h

/-! ### the meaning of readings -/
def SemE (c : Ct) (b : Bool) (t : TE) (f : En → R SV) : Prop := ∀ B H0 Hf H σ ρ Q, EnvOk c.K B H0 Hf H σ ρ → Out c Hf H (f ρ) (GE c b Hf H Q) → t σ H Q
def SemT (c : Ct) (t : TT) (f : En → R Bool) : Prop := ∀ B H0 Hf H σ ρ Q, EnvOk c.K B H0 Hf H σ ρ → Out c Hf H (f ρ) (GT Hf H Q) → t σ H Q
def SemA (c : Ct) (t : TA) (f : En → R (List D)) : Prop := ∀ B H0 Hf H σ ρ Q, EnvOk c.K B H0 Hf H σ ρ → Out c Hf H (f ρ) (GA c Hf H Q) → t σ H Q
/-- arguments that are only looked at -/
inductive RepRs (K : Kx) (Hf H : Hp) : List V → List SV → Prop
  | nil : RepRs K Hf H [] []
  | cons {v : V} {vs : List V} {r : SV} {rs : List SV} : RepR K Hf H v r → RepRs K Hf H vs rs → RepRs K Hf H (v :: vs) (r :: rs)
theorem RepRs.grow {K : Kx} {Hf H Hf' H' : Hp} (x : Ext Hf H Hf' H') : ∀ {vs : List V} {rs : List SV}, RepRs K Hf H vs rs → RepRs K Hf' H' vs rs
  | _, _, .nil => .nil
  | _, _, .cons a b => .cons (a.grow x) (RepRs.grow x b)
def GB (c : Ct) (Hf H : Hp) (Q : List V → Hp → Prop) (rs : List SV) : Prop := ∀ vs Hf' H', Ext Hf H Hf' H' → RepRs c.K Hf' H' vs rs → Q vs H'
def SemB (c : Ct) (t : TA) (f : En → R (List SV)) : Prop := ∀ B H0 Hf H σ ρ Q, EnvOk c.K B H0 Hf H σ ρ → Out c Hf H (f ρ) (GB c Hf H Q) → t σ H Q

def GS (c : Ct) (B : Bs) (H0 : Hp) (Dn : Ends) : Fl → Prop
  | .nx ρ => ∀ Hf H σ, EnvOk c.K B H0 Hf H σ ρ → Dn.nx σ H
  | .bk ρ => ∀ Hf H σ, EnvOk c.K B H0 Hf H σ ρ → Dn.bk σ H
  | .ct ρ => ∀ Hf H σ, EnvOk c.K B H0 Hf H σ ρ → Dn.ct σ H
  | .rt r => ∀ v Hf H, Ext B.h H0 Hf H → RepR c.K Hf H v r → (r.own = true → ∀ p, v = .ref p → H0 p = none) → Dn.rt v H
def SemS (c : Ct) (t : TS) (f : En → R Fl) : Prop := ∀ B H0 Hf H σ ρ Dn, EnvOk c.K B H0 Hf H σ ρ → Out c B H0 (f ρ) (GS c B H0 Dn) → t Dn σ H
/-- a statement's outcome is told from the entry on; an expression's from here -/
theorem Out.here {α : Type} {c : Ct} {B H0 Hf H : Hp} {x : R α} {G : α → Prop} (h : Out c B H0 x G) (e : Ext B H0 Hf H) : Out c Hf H x G := h.grow e fun _ g => g

/-! ### names, constants -/
def datS : SV → R D
  | .d x => .ok x
  | .ol xs => .ok (.list xs)
  | .od _ => .bad
  | .pin _ => .bad
  | .exn _ _ => .bad
  | .pd _ => .bad
  | .kd _ => .bad
  | .sk _ => .bad
  | .sd _ => .bad
  | .so _ _ => .bad
  | .rw _ _ _ _ => .bad
  | .oi _ _ => .bad
/-- a slot's value, to be handed on -/
def getV (i : Nat) (ρ : En) : R SV := match ρ[i]? with
  | some (some (.d x)) => .ok (.d x)
  | some (some (.sk x)) => .ok (.sk x)
  | some (some (.sd x)) => .ok (.sd x)
  | some (some (.so C x)) => .ok (.so C x)
  | _ => .bad
/-- .. to be looked at -/
def peek (i : Nat) (ρ : En) : R SV := match ρ[i]? with
  | some (some r) => .ok r
  | _ => .bad
theorem sem_var {c : Ct} {i : Nat} : SemE c true (tVar i) (getV i) := by
  intro B H0 Hf H σ ρ Q I h
  unfold getV at h
  split at h
  · rename_i x e
    obtain ⟨v, h1, h2⟩ := I.sl i _ e
    exact ⟨v, h1, h v Hf H (.refl I.i) h2 fun _ z => nomatch z⟩
  · rename_i x e
    obtain ⟨v, h1, h2⟩ := I.sl i _ e
    exact ⟨v, h1, h v Hf H (.refl I.i) h2 fun _ z => nomatch z⟩
  · rename_i x e
    obtain ⟨v, h1, h2⟩ := I.sl i _ e
    exact ⟨v, h1, h v Hf H (.refl I.i) h2 fun _ z => nomatch z⟩
  · rename_i C x e
    obtain ⟨v, h1, h2⟩ := I.sl i _ e
    exact ⟨v, h1, h v Hf H (.refl I.i) h2 fun _ z => nomatch z⟩
  · exact h.elim
theorem sem_peek {c : Ct} {i : Nat} : SemE c false (tVar i) (peek i) := by
  intro B H0 Hf H σ ρ Q I h
  unfold peek at h
  split at h
  · rename_i x e
    obtain ⟨v, h1, h2⟩ := I.sl i _ e
    exact ⟨v, h1, h v Hf H (.refl I.i) h2 fun z => nomatch z⟩
  · exact h.elim
theorem SemE.look {c : Ct} {t : TE} {f : En → R SV} (h : SemE c true t f) : SemE c false t f := fun B H0 Hf H σ ρ Q I o =>
  h B H0 Hf H σ ρ Q I (o.mono fun _ _ g v Hf' H' x q _ => g v Hf' H' x q fun z => nomatch z)
theorem sem_con {c : Ct} {b : Bool} {v : V} {d : D} (h : ∀ Hf, Dp c.K Hf v d) : SemE c b (tC v) fun _ => .ok (.d d) := fun B H0 Hf H σ ρ Q I o => o v Hf H (.refl I.i) (h Hf) fun _ z => nomatch z
theorem sem_int {c : Ct} {b : Bool} {i : Int} : SemE c b (tC (.int i)) fun _ => .ok (.d (.int i)) := sem_con fun _ => .int i
theorem sem_bl {c : Ct} {b : Bool} {i : Bool} : SemE c b (tC (.bl i)) fun _ => .ok (.d (.bool i)) := sem_con fun _ => .bl i
theorem sem_str {c : Ct} {b : Bool} {i : Str} : SemE c b (tC (.str i)) fun _ => .ok (.d (.str i)) := sem_con fun _ => .str i
theorem sem_non {c : Ct} {b : Bool} : SemE c b (tC .non) fun _ => .ok (.d .none) := sem_con fun _ => .non
/-- freezing a fresh answer -/
theorem froze {c : Ct} {Hf H Hf' H' : Hp} {v : V} {r : SV} {d : D} (x : Ext Hf H Hf' H') (q : RepR c.K Hf' H' v r) (fr : r.own = true → ∀ p, v = .ref p → H p = none) (e : datS r = .ok d) :
    ∃ Hf2, Ext Hf H Hf2 H' ∧ Dp c.K Hf2 v d := by
  cases r with
  | d y => cases e; exact ⟨Hf', x, q⟩
  | ol xs =>
    cases e
    obtain ⟨p, vs, rfl, h1, h2, h3⟩ := q
    have g := upd_grow (o := .lst vs) h2
    refine ⟨upd Hf' p (.lst vs), ⟨x.f.trans g, x.h, fun b o e => ?_, fun b e => ?_⟩, .lst (.inl (.inl upd_same)) (dpAll_mono g h3)⟩
    · by_cases hb : b = p
      · subst hb; rw [upd_same] at e; cases e; exact h1
      · rw [upd_ne hb] at e; exact x.i _ _ e
    · by_cases hb : b = p
      · subst hb; exact .inr (fr rfl _ rfl)
      · rw [upd_ne hb] at e; exact x.n b e
  | od kvs => cases e
  | pin kvs => cases e
  | exn n as => cases e
  | pd kvs => cases e
  | kd kvs => cases e
  | sk kvs => cases e
  | sd kvs => cases e
  | so C fs => cases e
  | rw _ _ _ _ => cases e
  | oi C fs => cases e
/-- what is looked at stands in the heap -/
theorem looked {c : Ct} {Hf H : Hp} {v : V} {r : SV} {d : D} (i : Same Hf H) (q : RepR c.K Hf H v r) (e : datS r = .ok d) : Dp c.K H v d := by
  cases r with
  | d y => cases e; exact dp_mono i q
  | ol xs =>
    cases e
    obtain ⟨p, vs, rfl, h1, h2, h3⟩ := q
    exact .lst (.inl (.inl h1)) (dpAll_mono i h3)
  | od kvs => cases e
  | pin kvs => cases e
  | exn n as => cases e
  | pd kvs => cases e
  | kd kvs => cases e
  | sk kvs => cases e
  | sd kvs => cases e
  | so C fs => cases e
  | rw _ _ _ _ => cases e
  | oi C fs => cases e

/-! ### combinators (plain functions of the slots) -/
def bin (g : SV → SV → R SV) (fa fb : En → R SV) : En → R SV := fun ρ => fa ρ >>= fun a => fb ρ >>= fun b => g a b
def una (g : SV → R SV) (fa : En → R SV) : En → R SV := fun ρ => fa ρ >>= g
def kon (d : D) : En → R SV := fun _ => .ok (.d d)
/-! ### operators of two -/
def R2ok (c : Ct) (r : R2) (g : SV → SV → R SV) : Prop := ∀ Hf H x y rx ry Q, Same Hf H → RepR c.K Hf H x rx → RepR c.K Hf H y ry → Out c Hf H (g rx ry) (GE c true Hf H Q) → r x y H Q
theorem R2ok.or {c : Ct} {r r' : R2} {g g' : SV → SV → R SV} (h : R2ok c r g) (h' : R2ok c r' g') : R2ok c (fun x y H Q => r x y H Q ∨ r' x y H Q) (fun a b => match g a b with | .bad => g' a b | z => z) := by
  intro Hf H x y rx ry Q i hx hy o
  cases e : g rx ry with
  | bad => simp only [e] at o; exact .inr (h' Hf H x y rx ry Q i hx hy o)
  | ok a => simp only [e] at o; exact .inl (h Hf H x y rx ry Q i hx hy (by rw [e]; exact o))
  | ex n as => simp only [e] at o; exact .inl (h Hf H x y rx ry Q i hx hy (by rw [e]; exact o))
theorem OpR.or {X : Cx} {f : Value → Value → Sem Value} {r r' : R2} (h : OpR X f r) (h' : OpR X f r') : OpR X f (fun x y H Q => r x y H Q ∨ r' x y H Q) := fun pins s σ H x y v u Q I rx ry q => q.elim (fun z => h pins s σ H x y v u Q I rx ry z) fun z => h' pins s σ H x y v u Q I rx ry z
theorem sem_bin {c : Ct} {r : R2} {g : SV → SV → R SV} {ta tb : TE} {fa fb : En → R SV} (hr : R2ok c r g) (ha : SemE c false ta fa) (hb : SemE c false tb fb) :
    SemE c true (tOp r ta tb) (bin g fa fb) := by
  intro B H0 Hf H σ ρ Q I o
  refine ha B H0 Hf H σ ρ _ I (Out.bind o fun a ea o1 => fun v Hf1 H1 x1 q1 _ => ?_)
  refine hb B H0 Hf1 H1 σ ρ _ (I.grow x1) (Out.bind (o1.grow x1 fun _ z => z) fun b eb o2 => fun u Hf2 H2 x2 q2 _ => ?_)
  exact hr Hf2 H2 v u a b Q x2.i (q1.grow x2) q2 (o2.grow x2 fun _ g => (g.grow x1).grow x2)
def int1 : SV → R Int
  | .d (.int i) => .ok i
  | _ => .bad
theorem int1_ok {K : Kx} {Hf H : Hp} {v : V} {r : SV} {i : Int} (q : RepR K Hf H v r) (e : int1 r = .ok i) : v = .int i := by
  unfold int1 at e
  split at e
  · cases e; cases q; rfl
  · cases e
theorem GE.now {c : Ct} {b : Bool} {Hf H : Hp} {Q : VK} {v : V} {d : D} (h : GE c b Hf H Q (.d d)) (i : Same Hf H) (q : Dp c.K Hf v d) : Q v H := h v Hf H (.refl i) q fun _ z => nomatch z
end Pl
namespace Pl
open PySem PySem.Spec PyProof.Rows L2

theorem Ext.laid {Hf H : Hp} {p : Addr} {o : HO} (i : Same Hf H) (h : H p = none) : Ext Hf H (upd Hf p o) (upd H p o) :=
  ⟨upd_grow (i.free h), upd_grow h, upd_both i, fun b e => by
    by_cases hb : b = p
    · subst hb; exact .inr h
    · rw [upd_ne hb] at e; exact .inl e⟩
theorem Ext.fresh {Hf H : Hp} {p : Addr} {o : HO} (i : Same Hf H) (h : H p = none) : Ext Hf H Hf (upd H p o) :=
  ⟨.refl _, upd_grow h, i.trans (upd_grow h), fun b e => .inl e⟩
/-- a new list is handed on -/
theorem GE.newL {c : Ct} {b : Bool} {Hf H : Hp} {Q : VK} {xs : List D} {vs : List V} {p : Addr} (h : GE c b Hf H Q (.ol xs)) (i : Same Hf H) (hp : H p = none) (q : DpAll c.K Hf vs xs) : Q (.ref p) (upd H p (.lst vs)) :=
  h _ Hf _ (.fresh i hp) ⟨p, vs, rfl, upd_same, i.free hp, q⟩ fun _ _ p' e => by cases e; exact hp
theorem GE.newT {c : Ct} {b : Bool} {Hf H : Hp} {Q : VK} {xs : List D} {vs : List V} {p : Addr} (h : GE c b Hf H Q (.d (.tuple xs))) (i : Same Hf H) (hp : H p = none) (q : DpAll c.K Hf vs xs) : Q (.ref p) (upd H p (.tup vs)) :=
  h _ _ _ (.laid i hp) (.tup (.inl (.inl upd_same)) (dpAll_mono (upd_grow (i.free hp)) q)) fun _ z => nomatch z
/-! ### arithmetic -/
def subS : SV → SV → R SV
  | .d (.int a), .d (.int b) => .ok (.d (.int (a - b)))
  | _, _ => .bad
def okM (j : Int) : Bool := Nat.blt j.natAbs 18446744073709551616
theorem okM_of {j : Int} (h0 : -1000000000000 ≤ j) (h1 : j ≤ 1000000000000) : okM j = true := by
  unfold okM Nat.blt
  rw [Nat.ble_eq]; omega
theorem okM_ok {j : Int} (h : okM j = true) : -(2 ^ 64) < j ∧ j < 2 ^ 64 := by
  unfold okM Nat.blt at h
  rw [Nat.ble_eq] at h
  omega
def mulS : SV → SV → R SV
  | .d (.int a), .d (.int b) => if (okM a || okM b) = true then .ok (.d (.int (a * b))) else .bad
  | _, _ => .bad
def modS : SV → SV → R SV
  | .d (.int a), .d (.int b) => if 0 < b then .ok (.d (.int (a % b))) else .bad
  | _, _ => .bad
def fdivS : SV → SV → R SV
  | .d (.int a), .d (.int b) => if 0 < b ∧ b < 1073741824 then .ok (.d (.int (a / b))) else .bad
  | _, _ => .bad
def powS : SV → SV → R SV
  | .d (.int a), .d (.int b) => if 0 ≤ b ∧ b ≤ 1000000 ∧ a.natAbs < 2 ^ 64 then .ok (.d (.int (a ^ b.toNat))) else .bad
  | _, _ => .bad
def ltS : SV → SV → R SV
  | .d (.int a), .d (.int b) => .ok (.d (.bool (decide (a < b))))
  | .d (.str a), .d (.str b) => .ok (.d (.bool (decide (a.cps.toList < b.cps.toList))))
  | _, _ => .bad
def leS : SV → SV → R SV
  | .d (.int a), .d (.int b) => .ok (.d (.bool (decide (a ≤ b))))
  | .d (.str a), .d (.str b) => .ok (.d (.bool (!decide (b.cps.toList < a.cps.toList))))
  | _, _ => .bad
def gtS : SV → SV → R SV
  | .d (.int a), .d (.int b) => .ok (.d (.bool (decide (b < a))))
  | .d (.str a), .d (.str b) => .ok (.d (.bool (decide (b.cps.toList < a.cps.toList))))
  | _, _ => .bad
def geS : SV → SV → R SV
  | .d (.int a), .d (.int b) => .ok (.d (.bool (decide (b ≤ a))))
  | .d (.str a), .d (.str b) => .ok (.d (.bool (!decide (a.cps.toList < b.cps.toList))))
  | _, _ => .bad
def negS : SV → R SV
  | .d (.int a) => .ok (.d (.int (-a)))
  | _ => .bad
section
variable {c : Ct}
theorem r2_sub : R2ok c (rI0 fun i j => .int (i - j)) subS := by
  intro Hf H x y rx ry Q i hx hy o
  unfold subS at o
  split at o
  · cases hx; cases hy; exact ⟨_, _, rfl, rfl, GE.now o i (.int _)⟩
  · exact o.elim
theorem r2_mul : R2ok c (rI CMul fun i j => .int (i * j)) mulS := by
  intro Hf H x y rx ry Q i hx hy o
  unfold mulS at o
  split at o
  · cases hx; cases hy
    split at o
    · rename_i h
      rcases Bool.or_eq_true_iff.mp h with h | h
      · exact ⟨_, _, rfl, rfl, .inl (okM_ok h), GE.now o i (.int _)⟩
      · exact ⟨_, _, rfl, rfl, .inr (okM_ok h), GE.now o i (.int _)⟩
    · exact o.elim
  · exact o.elim
theorem r2_mod : R2ok c (rI (fun _ j => 0 < j) fun i j => .int (i % j)) modS := by
  intro Hf H x y rx ry Q i hx hy o
  unfold modS at o
  split at o
  · cases hx; cases hy
    split at o
    · rename_i h; exact ⟨_, _, rfl, rfl, h, GE.now o i (.int _)⟩
    · exact o.elim
  · exact o.elim
theorem r2_fdiv : R2ok c (rI CDiv fun i j => .int (i / j)) fdivS := by
  intro Hf H x y rx ry Q i hx hy o
  unfold fdivS at o
  split at o
  · cases hx; cases hy
    split at o
    · rename_i h; exact ⟨_, _, rfl, rfl, h, GE.now o i (.int _)⟩
    · exact o.elim
  · exact o.elim
theorem r2_pow : R2ok c (rI CPow fun i j => .int (i ^ j.toNat)) powS := by
  intro Hf H x y rx ry Q i hx hy o
  unfold powS at o
  split at o
  · cases hx; cases hy
    split at o
    · rename_i h; exact ⟨_, _, rfl, rfl, h, GE.now o i (.int _)⟩
    · exact o.elim
  · exact o.elim
abbrev rLt : R2 := fun x y H Q => rI0 (fun i j => .bl (decide (i < j))) x y H Q ∨ ∃ i j, x = .str i ∧ y = .str j ∧ Q (.bl (decide (i.cps.toList < j.cps.toList))) H
abbrev rLe : R2 := fun x y H Q => rI0 (fun i j => .bl (decide (i ≤ j))) x y H Q ∨ ∃ i j, x = .str i ∧ y = .str j ∧ Q (.bl (!decide (j.cps.toList < i.cps.toList))) H
abbrev rGt : R2 := fun x y H Q => rI0 (fun i j => .bl (decide (j < i))) x y H Q ∨ ∃ i j, x = .str i ∧ y = .str j ∧ Q (.bl (decide (j.cps.toList < i.cps.toList))) H
abbrev rGe : R2 := fun x y H Q => rI0 (fun i j => .bl (decide (j ≤ i))) x y H Q ∨ ∃ i j, x = .str i ∧ y = .str j ∧ Q (.bl (!decide (i.cps.toList < j.cps.toList))) H
theorem o_lt {X : Cx} : OpR X (compareOp .Lt) rLt := Pl.OpR.or op_lt op_lt_str
theorem o_le {X : Cx} : OpR X (compareOp .LtE) rLe := Pl.OpR.or op_le op_le_str
theorem o_gt {X : Cx} : OpR X (compareOp .Gt) rGt := Pl.OpR.or op_gt op_gt_str
theorem o_ge {X : Cx} : OpR X (compareOp .GtE) rGe := Pl.OpR.or op_ge op_ge_str
theorem r2_lt : R2ok c rLt ltS := by
  intro Hf H x y rx ry Q i hx hy o
  unfold ltS at o
  split at o
  · cases hx; cases hy; exact .inl ⟨_, _, rfl, rfl, GE.now o i (.bl _)⟩
  · cases hx; cases hy; exact .inr ⟨_, _, rfl, rfl, GE.now o i (.bl _)⟩
  · exact o.elim
theorem r2_le : R2ok c rLe leS := by
  intro Hf H x y rx ry Q i hx hy o
  unfold leS at o
  split at o
  · cases hx; cases hy; exact .inl ⟨_, _, rfl, rfl, GE.now o i (.bl _)⟩
  · cases hx; cases hy; exact .inr ⟨_, _, rfl, rfl, GE.now o i (.bl _)⟩
  · exact o.elim
theorem r2_gt : R2ok c rGt gtS := by
  intro Hf H x y rx ry Q i hx hy o
  unfold gtS at o
  split at o
  · cases hx; cases hy; exact .inl ⟨_, _, rfl, rfl, GE.now o i (.bl _)⟩
  · cases hx; cases hy; exact .inr ⟨_, _, rfl, rfl, GE.now o i (.bl _)⟩
  · exact o.elim
theorem r2_ge : R2ok c rGe geS := by
  intro Hf H x y rx ry Q i hx hy o
  unfold geS at o
  split at o
  · cases hx; cases hy; exact .inl ⟨_, _, rfl, rfl, GE.now o i (.bl _)⟩
  · cases hx; cases hy; exact .inr ⟨_, _, rfl, rfl, GE.now o i (.bl _)⟩
  · exact o.elim
theorem sem_neg {ta : TE} {fa : En → R SV} (ha : SemE c false ta fa) : SemE c true (tUn (rU fun i => .int (-i)) ta) (una negS fa) := by
  intro B H0 Hf H σ ρ Q I o
  refine ha B H0 Hf H σ ρ _ I (Out.bind o fun a ea o1 => fun v Hf1 H1 x1 q1 _ => ?_)
  unfold negS at o1
  split at o1
  · cases q1; exact ⟨_, rfl, GE.now (GE.grow (show GE c true Hf H Q _ from o1) x1) x1.i (.int _)⟩
  · exact o1.elim
end

/-! ### + -/
/-- two lists, whatever they are -/
def rCatL (K : PySem.W.Frag) : R2 := fun x y H Q => ∃ l b xs zs, x = .ref l ∧ y = .ref b ∧ SqL K H l xs ∧ SqL K H b zs ∧ xs.length + zs.length ≤ sizeLine ∧ ∀ p, H p = none → Q (.ref p) (upd H p (.lst (xs ++ zs)))
def addS : SV → SV → R SV
  | .d (.int a), .d (.int b) => .ok (.d (.int (a + b)))
  | .d (.str a), .d (.str b) => if a.length + b.length ≤ sizeLine then .ok (.d (.str (a ++ b))) else .bad
  | .d (.tuple a), .d (.tuple b) => if a.length + b.length ≤ sizeLine then .ok (.d (.tuple (a ++ b))) else .bad
  | .d (.list a), .d (.list b) => if a.length + b.length ≤ sizeLine then .ok (.ol (a ++ b)) else .bad
  | .d (.list a), .ol b => if a.length + b.length ≤ sizeLine then .ok (.ol (a ++ b)) else .bad
  | .ol a, .d (.list b) => if a.length + b.length ≤ sizeLine then .ok (.ol (a ++ b)) else .bad
  | .ol a, .ol b => if a.length + b.length ≤ sizeLine then .ok (.ol (a ++ b)) else .bad
  | _, _ => .bad
theorem op_catL {X : Cx} : OpR X (binaryOp .Add) (rCatL X.K) := by
  intro pins s σ H x y v u Q I rx ry h
  obtain ⟨l, b, xs, zs, rfl, rfl, hH, hB, hz, q⟩ := h
  cases rx
  cases ry
  obtain ⟨its, r, p1, z⟩ := I.list hH
  obtain ⟨its2, r2, p2, z2⟩ := I.list hB
  obtain ⟨o, n, e, hc, hd, hdat⟩ := p1
  obtain ⟨o2, n2, e2, hc2, hd2, hdat2⟩ := p2
  have hl := r.length
  have hl2 := r2.length
  obtain ⟨oc, od, odt, osl⟩ := o
  obtain ⟨oc2, od2, odt2, osl2⟩ := o2
  simp only at hc hd hdat hc2 hd2 hdat2
  subst hc hd hdat hc2 hd2 hdat2
  have hz' : its.toArray.size + its2.toArray.size ≤ sizeLine := by rw [List.size_toArray, List.size_toArray]; omega
  have ea : its.toArray ++ its2.toArray = (its ++ its2).toArray := by simp
  refine concat_meets ⟨_, e, rfl⟩ ⟨_, e2, rfl⟩ noFill_list_add seq_list_add F.slot_list_add F.entry_list_add (F.args_list_add_2 _ _) (PyProof.Rows.list_addW l b its.toArray its2.toArray n n2 none none osl osl2 hz') ⟨e, e2, ?_⟩
  rw [ea]
  exact ⟨.ref _, _, I.lnew (t' := s.toks) (r.append r2) (by rw [List.length_append]; omega), rfl, q _ I.fresh⟩
/-- a list that is looked at -/
theorem rep_list {K : Kx} {Hf H : Hp} {v : V} {r : SV} {xs : List D} (i : Same Hf H) (q : RepR K Hf H v r) (e : r = .d (.list xs) ∨ r = .ol xs) : ∃ p vs, v = .ref p ∧ SqL K H p vs ∧ DpAll K Hf vs xs := by
  rcases e with rfl | rfl
  · cases q with
    | lst h1 h2 => exact ⟨_, _, rfl, i.seq h1, h2⟩
  · obtain ⟨p, vs, e, h1, h2, h3⟩ := q
    exact ⟨p, vs, e, .inl (.inl h1), h3⟩
theorem rep_tup {K : Kx} {Hf H : Hp} {v : V} {xs : List D} (i : Same Hf H) (q : RepR K Hf H v (.d (.tuple xs))) : ∃ p vs, v = .ref p ∧ SqT K H p vs ∧ SqT K Hf p vs ∧ DpAll K Hf vs xs := by
  cases q with
  | tup h1 h2 => exact ⟨_, _, rfl, sqT_mono i h1, h1, h2⟩
abbrev rAddA (K : PySem.W.Frag) : R2 := fun x y H Q => rI0 (fun i j => .int (i + j)) x y H Q ∨ ((∃ i j, x = .str i ∧ y = .str j ∧ i.length + j.length ≤ sizeLine ∧ Q (.str (i ++ j)) H) ∨ (rCatA K x y H Q ∨ rCatL K x y H Q))
theorem o_add {X : Cx} : OpR X (binaryOp .Add) (rAddA X.K) := Pl.OpR.or op_add (Pl.OpR.or op_add_str (Pl.OpR.or op_catA op_catL))
theorem r2_add {c : Ct} : R2ok c (rAddA c.K) addS := by
  intro Hf H x y rx ry Q i hx hy o
  have lists : ∀ a b, (rx = .d (.list a) ∨ rx = .ol a) → (ry = .d (.list b) ∨ ry = .ol b) → Out c Hf H (if a.length + b.length ≤ sizeLine then R.ok (SV.ol (a ++ b)) else R.bad) (GE c true Hf H Q) → rAddA c.K x y H Q := by
    intro a b e1 e2 o
    split at o
    · rename_i hz
      obtain ⟨p, vs, rfl, h1, h2⟩ := rep_list i hx e1
      obtain ⟨p2, vs2, rfl, h3, h4⟩ := rep_list i hy e2
      refine .inr (.inr (.inr ⟨_, _, _, _, rfl, rfl, h1, h3, ?_, fun p hp => GE.newL o i hp (dpAll_append h2 h4)⟩))
      rw [dpAll_len h2, dpAll_len h4]; exact hz
    · exact o.elim
  unfold addS at o
  split at o
  · cases hx; cases hy; exact .inl ⟨_, _, rfl, rfl, GE.now o i (.int _)⟩
  · cases hx; cases hy
    split at o
    · rename_i h; exact .inr (.inl ⟨_, _, rfl, rfl, h, GE.now o i (.str _)⟩)
    · exact o.elim
  · rename_i a b
    split at o
    · rename_i hz
      obtain ⟨p, vs, rfl, h1, h1f, h2⟩ := rep_tup i hx
      obtain ⟨p2, vs2, rfl, h3, h3f, h4⟩ := rep_tup i hy
      refine .inr (.inr (.inl ⟨_, _, _, _, rfl, rfl, h1, h3, ?_, fun e => ?_, fun _ e => ?_, fun _ _ p hp => GE.newT o i hp (dpAll_append h2 h4)⟩))
      · rw [dpAll_len h2, dpAll_len h4]; exact hz
      · subst e; cases h2
        exact GE.now o i (.tup h3f h4)
      · subst e; cases h4
        rw [List.append_nil] at o
        exact GE.now o i (.tup h1f h2)
    · exact o.elim
  · exact lists _ _ (.inl rfl) (.inl rfl) o
  · exact lists _ _ (.inl rfl) (.inr rfl) o
  · exact lists _ _ (.inr rfl) (.inl rfl) o
  · exact lists _ _ (.inr rfl) (.inr rfl) o
  · exact o.elim

/-! ### == and != -/
/-- data without dicts, of bounded depth; nothing is asked of a text -/
def shpD (d : D) : Bool := PyData.plain d && decide (PyData.depth d ≤ 60)
theorem shpD_of {d : D} (h : shpD d = true) : PyData.plain d = true ∧ PyData.depth d ≤ 60 := by
  unfold shpD at h
  rw [Bool.and_eq_true] at h
  exact ⟨h.1, of_decide_eq_true h.2⟩
section
variable {X : Cx}
def rEqP (K : PySem.W.Frag) : R2 := fun x y H Q => ∃ d e, Dp K H x d ∧ Dp K H y e ∧ shpD d = true ∧ shpD e = true ∧ Q (.bl (PyData.eqv d e)) H
def rNeP (K : PySem.W.Frag) : R2 := fun x y H Q => ∃ d e, Dp K H x d ∧ Dp K H y e ∧ shpD d = true ∧ shpD e = true ∧ Q (.bl (!PyData.eqv d e)) H
def rInP (K : PySem.W.Frag) : R2 := fun x y H Q => ∃ d xs, Dp K H x d ∧ Dp K H y (.list xs) ∧ shpD d = true ∧ shpD (.list xs) = true ∧ Q (.bl (xs.any fun z => PyData.eqv z d)) H
def rNotInP (K : PySem.W.Frag) : R2 := fun x y H Q => ∃ d xs, Dp K H x d ∧ Dp K H y (.list xs) ∧ shpD d = true ∧ shpD (.list xs) = true ∧ Q (.bl (!xs.any fun z => PyData.eqv z d)) H
theorem op_eqP (hu : X.A.units + 64 < cLine) : OpR X (compareOp .Eq) (rEqP X.K) := by
  intro pins s σ H x y v u Q I rx ry h
  obtain ⟨d, e, hd, he, sd, se, q⟩ := h
  obtain ⟨as, r1⟩ := Dp.reads I d x v hd rx
  obtain ⟨bs, r2⟩ := Dp.reads I e y u he ry
  have h1 := shpD_of sd
  have h2 := shpD_of se
  exact PySem.SeqAt.eq_plain r1 r2 h1.1 h2.1 (by omega) ⟨.bl _, H, I, rfl, q⟩
theorem op_neP (hu : X.A.units + 64 < cLine) : OpR X (compareOp .NotEq) (rNeP X.K) := by
  intro pins s σ H x y v u Q I rx ry h
  obtain ⟨d, e, hd, he, sd, se, q⟩ := h
  obtain ⟨as, r1⟩ := Dp.reads I d x v hd rx
  obtain ⟨bs, r2⟩ := Dp.reads I e y u he ry
  have h1 := shpD_of sd
  have h2 := shpD_of se
  exact PySem.SeqAt.ne_plain r1 r2 h1.1 h2.1 (by omega) ⟨.bl _, H, I, rfl, q⟩
theorem op_inP (hu : X.A.units + 65 < cLine) : OpR X (compareOp .In) (rInP X.K) := by
  intro pins s σ H x y v u Q I rx ry h
  obtain ⟨d, xs, hd, he, sd, se, q⟩ := h
  obtain ⟨as, r1⟩ := Dp.reads I d x v hd rx
  obtain ⟨bs, r2⟩ := Dp.reads I _ y u he ry
  have h1 := shpD_of sd
  have h2 := shpD_of se
  have h3 : PyData.plainAll xs = true := h2.1
  exact PySem.SeqAt.in_list_data r2 r1 h3 h1.1 (by omega) ⟨.bl _, H, I, rfl, q⟩
theorem op_notInP (hu : X.A.units + 65 < cLine) : OpR X (compareOp .NotIn) (rNotInP X.K) := by
  intro pins s σ H x y v u Q I rx ry h
  obtain ⟨d, xs, hd, he, sd, se, q⟩ := h
  obtain ⟨as, r1⟩ := Dp.reads I d x v hd rx
  obtain ⟨bs, r2⟩ := Dp.reads I _ y u he ry
  have h1 := shpD_of sd
  have h2 := shpD_of se
  have h3 : PyData.plainAll xs = true := h2.1
  exact PySem.SeqAt.notIn_list_data r2 r1 h3 h1.1 (by omega) ⟨.bl _, H, I, rfl, q⟩
end
def flat : D → Bool
  | .none | .bool _ | .int _ | .str _ => true
  | _ => false
def eqG (neg : Bool) (a b : SV) : R SV := datS a >>= fun x => datS b >>= fun y => if shpD x = true ∧ shpD y = true then .ok (.d (.bool (if neg then !PyData.eqv x y else PyData.eqv x y))) else .bad
def eqS (neg : Bool) (a b : SV) : R SV := match a, b with
  | .d (.int x), .d (.int y) => .ok (.d (.bool (if neg then !decide (x = y) else decide (x = y))))
  | .d (.str x), .d (.str y) => .ok (.d (.bool (if neg then !decide (x = y) else decide (x = y))))
  | .d (.bool x), .d (.bool y) => .ok (.d (.bool (if neg then !decide (x = y) else decide (x = y))))
  | .d .none, .d (.str _) => .ok (.d (.bool neg))
  | .d (.str _), .d .none => .ok (.d (.bool neg))
  | .d .none, .d .none => .ok (.d (.bool !neg))
  | a, b => eqG neg a b
abbrev rEqA (K : PySem.W.Frag) : R2 := fun x y H Q => rEq x y H Q ∨ rEqP K x y H Q
abbrev rNeA (K : PySem.W.Frag) : R2 := fun x y H Q => rNe x y H Q ∨ rNeP K x y H Q
theorem o_eq {X : Cx} (hu : X.A.units + 64 < cLine) : OpR X (compareOp .Eq) (rEqA X.K) := Pl.OpR.or op_eq (op_eqP hu)
theorem o_ne {X : Cx} (hu : X.A.units + 64 < cLine) : OpR X (compareOp .NotEq) (rNeA X.K) := Pl.OpR.or op_ne (op_neP hu)
theorem r2_eqG {c : Ct} : R2ok c (rEqP c.K) (eqG false) := by
  intro Hf H x y rx ry Q i hx hy o
  unfold eqG at o
  cases e1 : datS rx with
  | ok d =>
    cases e2 : datS ry with
    | ok e =>
      simp only [e1, e2, ok_bind] at o
      split at o
      · rename_i h; exact ⟨d, e, looked (c := c) i hx e1, looked (c := c) i hy e2, h.1, h.2, GE.now o i (.bl _)⟩
      · exact o.elim
    | ex n as => cases ry <;> cases e2
    | bad => simp only [e1, e2, ok_bind, bad_bind] at o; exact o.elim
  | ex n as => cases rx <;> cases e1
  | bad => simp only [e1, bad_bind] at o; exact o.elim
theorem r2_neG {c : Ct} : R2ok c (rNeP c.K) (eqG true) := by
  intro Hf H x y rx ry Q i hx hy o
  unfold eqG at o
  cases e1 : datS rx with
  | ok d =>
    cases e2 : datS ry with
    | ok e =>
      simp only [e1, e2, ok_bind] at o
      split at o
      · rename_i h; exact ⟨d, e, looked (c := c) i hx e1, looked (c := c) i hy e2, h.1, h.2, GE.now o i (.bl _)⟩
      · exact o.elim
    | ex n as => cases ry <;> cases e2
    | bad => simp only [e1, e2, ok_bind, bad_bind] at o; exact o.elim
  | ex n as => cases rx <;> cases e1
  | bad => simp only [e1, bad_bind] at o; exact o.elim
theorem dec_vi {x y : Int} : decide (V.int x = V.int y) = decide (x = y) := by simp
theorem dec_vs {x y : Str} : decide (V.str x = V.str y) = decide (x = y) := by simp
theorem dec_vb {x y : Bool} : decide (V.bl x = V.bl y) = decide (x = y) := by simp
theorem r2_eq {c : Ct} : R2ok c (rEqA c.K) (eqS false) := by
  intro Hf H x y rx ry Q i hx hy o
  unfold eqS at o
  split at o
  · cases hx; cases hy; exact .inl ⟨rfl, by rw [dec_vi]; exact GE.now o i (.bl _)⟩
  · cases hx; cases hy; exact .inl ⟨rfl, by rw [dec_vs]; exact GE.now o i (.bl _)⟩
  · cases hx; cases hy; exact .inl ⟨rfl, by rw [dec_vb]; exact GE.now o i (.bl _)⟩
  · cases hx; cases hy; exact .inl ⟨rfl, GE.now o i (.bl _)⟩
  · cases hx; cases hy; exact .inl ⟨rfl, GE.now o i (.bl _)⟩
  · cases hx; cases hy; exact .inl ⟨rfl, GE.now o i (.bl _)⟩
  · exact .inr (r2_eqG Hf H x y _ _ Q i hx hy o)
theorem r2_ne {c : Ct} : R2ok c (rNeA c.K) (eqS true) := by
  intro Hf H x y rx ry Q i hx hy o
  unfold eqS at o
  split at o
  · cases hx; cases hy; exact .inl ⟨rfl, by rw [dec_vi]; exact GE.now o i (.bl _)⟩
  · cases hx; cases hy; exact .inl ⟨rfl, by rw [dec_vs]; exact GE.now o i (.bl _)⟩
  · cases hx; cases hy; exact .inl ⟨rfl, by rw [dec_vb]; exact GE.now o i (.bl _)⟩
  · cases hx; cases hy; exact .inl ⟨rfl, GE.now o i (.bl _)⟩
  · cases hx; cases hy; exact .inl ⟨rfl, GE.now o i (.bl _)⟩
  · cases hx; cases hy; exact .inl ⟨rfl, GE.now o i (.bl _)⟩
  · exact .inr (r2_neG Hf H x y _ _ Q i hx hy o)
/-- is None, is not None -/
def isN : D → Bool
  | .none => true
  | _ => false
def isnS (neg : Bool) : SV → SV → R SV
  | .d x, .d .none => .ok (.d (.bool (if neg then !isN x else isN x)))
  | .ol _, .d .none => .ok (.d (.bool neg))
  | .od _, .d .none => .ok (.d (.bool neg))
  | _, _ => .bad
theorem non_iff {K : PySem.W.Frag} {H : Hp} {v : V} {d : D} (h : Dp K H v d) : decide (v = V.non) = isN d := by
  cases h <;> rfl
theorem r2_isn {c : Ct} : R2ok c (fun x y H Q => y = .non ∧ Q (.bl (decide (x = .non))) H) (isnS false) := by
  intro Hf H x y rx ry Q i hx hy o
  unfold isnS at o
  split at o
  · cases hy
    refine ⟨rfl, GE.now o i ?_⟩
    rw [non_iff hx]
    exact .bl _
  · cases hy
    obtain ⟨p, vs, rfl, _⟩ := hx
    exact ⟨rfl, GE.now o i (.bl _)⟩
  · cases hy
    obtain ⟨p, vs, rfl, _⟩ := hx
    exact ⟨rfl, GE.now o i (.bl _)⟩
  · exact o.elim
theorem r2_notn {c : Ct} : R2ok c (fun x y H Q => y = .non ∧ Q (.bl (!decide (x = .non))) H) (isnS true) := by
  intro Hf H x y rx ry Q i hx hy o
  unfold isnS at o
  split at o
  · cases hy
    refine ⟨rfl, GE.now o i ?_⟩
    rw [non_iff hx]
    exact .bl _
  · cases hy
    obtain ⟨p, vs, rfl, _⟩ := hx
    exact ⟨rfl, GE.now o i (.bl _)⟩
  · cases hy
    obtain ⟨p, vs, rfl, _⟩ := hx
    exact ⟨rfl, GE.now o i (.bl _)⟩
  · exact o.elim

/-! ### in: a text in a text, data in a list or (flat) in a tuple -/
def datL : SV → R (List D)
  | .d (.list xs) => .ok xs
  | .ol xs => .ok xs
  | _ => .bad
def inS (neg : Bool) (a b : SV) : R SV := match a, b with
  | .d (.str x), .d (.str y) => .ok (.d (.bool (if neg then !(!(Builtin.Str.occurrences y x 0 y.length 1).isEmpty) else !(Builtin.Str.occurrences y x 0 y.length 1).isEmpty)))
  | .d x, .d (.list ys) => if shpD x = true ∧ shpD (.list ys) = true then .ok (.d (.bool (if neg then !(ys.any fun z => PyData.eqv z x) else ys.any fun z => PyData.eqv z x))) else .bad
  | .d x, .ol ys => if shpD x = true ∧ shpD (.list ys) = true then .ok (.d (.bool (if neg then !(ys.any fun z => PyData.eqv z x) else ys.any fun z => PyData.eqv z x))) else .bad
  | .d x, .d (.tuple ys) => if flat x = true ∧ ys.all flat = true then .ok (.d (.bool (if neg then !(ys.any fun z => PyData.eqv z x) else ys.any fun z => PyData.eqv z x))) else .bad
  | _, _ => .bad
theorem flat_of {K : PySem.W.Frag} {H : Hp} {v : V} {d : D} (h : Dp K H v d) (e : flat d = true) : flatV v = true := by
  cases h with
  | lst _ _ => cases e
  | tup _ _ => cases e
  | _ => rfl
theorem eqV_of {K : PySem.W.Frag} {H : Hp} {v u : V} {d e : D} (h : Dp K H v d) (h' : Dp K H u e) (f : flat d = true) (f' : flat e = true) : eqV v u = PyData.eqv d e := by
  cases h <;> cases h' <;> first
    | rfl
    | cases f
    | cases f'
    | simp [eqV, PyData.eqv]
theorem flatAll_of {K : PySem.W.Frag} {H : Hp} : ∀ {vs : List V} {ds : List D}, DpAll K H vs ds → ds.all flat = true → vs.all flatV = true
  | _, _, .nil, _ => rfl
  | _, _, .cons a b, e => by
    rw [List.all_cons, Bool.and_eq_true] at e
    rw [List.all_cons, flat_of a e.1, flatAll_of b e.2] <;> rfl
theorem inV_of {K : PySem.W.Frag} {H : Hp} {v : V} {d : D} (h : Dp K H v d) (f : flat d = true) : ∀ {vs : List V} {ds : List D}, DpAll K H vs ds → ds.all flat = true → inV v vs = ds.any fun z => PyData.eqv z d
  | _, _, .nil, _ => rfl
  | _, _, .cons a b, e => by
    rw [List.all_cons, Bool.and_eq_true] at e
    show (eqV _ v || inV v _) = _
    rw [List.any_cons, eqV_of a h e.1 f, inV_of h f b e.2]
abbrev rInA (K : PySem.W.Frag) : R2 := fun x y H Q => (∃ i j, x = .str i ∧ y = .str j ∧ Q (.bl (!(Builtin.Str.occurrences j i 0 j.length 1).isEmpty)) H) ∨ (rInP K x y H Q ∨ rIn K false x y H Q)
abbrev rNotInA (K : PySem.W.Frag) : R2 := fun x y H Q => (∃ i j, x = .str i ∧ y = .str j ∧ Q (.bl (!(!(Builtin.Str.occurrences j i 0 j.length 1).isEmpty))) H) ∨ (rNotInP K x y H Q ∨ rIn K true x y H Q)
theorem o_in {X : Cx} (hu : X.A.units + 65 < cLine) : OpR X (compareOp .In) (rInA X.K) := Pl.OpR.or op_in_str (Pl.OpR.or (op_inP hu) op_in_seq)
theorem o_notin {X : Cx} (hu : X.A.units + 65 < cLine) : OpR X (compareOp .NotIn) (rNotInA X.K) := Pl.OpR.or op_notIn_str (Pl.OpR.or (op_notInP hu) op_notIn_seq)
theorem r2_in {c : Ct} : R2ok c (rInA c.K) (inS false) := by
  intro Hf H x y rx ry Q i hx hy o
  unfold inS at o
  split at o
  · cases hx; cases hy; exact .inl ⟨_, _, rfl, rfl, GE.now o i (.bl _)⟩
  · split at o
    · rename_i h
      exact .inr (.inl ⟨_, _, looked (c := c) i hx rfl, looked (c := c) i hy rfl, h.1, h.2, GE.now o i (.bl _)⟩)
    · exact o.elim
  · split at o
    · rename_i h
      exact .inr (.inl ⟨_, _, looked (c := c) i hx rfl, looked (c := c) i hy rfl, h.1, h.2, GE.now o i (.bl _)⟩)
    · exact o.elim
  · split at o
    · rename_i h
      obtain ⟨p, vs, rfl, h1, _, h3⟩ := rep_tup i hy
      have e := inV_of hx h.1 h3 h.2
      refine .inr (.inr ⟨p, vs, rfl, .inr h1, flat_of hx h.1, flatAll_of h3 h.2, ?_⟩)
      rw [e]
      exact GE.now o i (.bl _)
    · exact o.elim
  · exact o.elim
theorem r2_notin {c : Ct} : R2ok c (rNotInA c.K) (inS true) := by
  intro Hf H x y rx ry Q i hx hy o
  unfold inS at o
  split at o
  · cases hx; cases hy; exact .inl ⟨_, _, rfl, rfl, GE.now o i (.bl _)⟩
  · split at o
    · rename_i h
      exact .inr (.inl ⟨_, _, looked (c := c) i hx rfl, looked (c := c) i hy rfl, h.1, h.2, GE.now o i (.bl _)⟩)
    · exact o.elim
  · split at o
    · rename_i h
      exact .inr (.inl ⟨_, _, looked (c := c) i hx rfl, looked (c := c) i hy rfl, h.1, h.2, GE.now o i (.bl _)⟩)
    · exact o.elim
  · split at o
    · rename_i h
      obtain ⟨p, vs, rfl, h1, _, h3⟩ := rep_tup i hy
      have e := inV_of hx h.1 h3 h.2
      refine .inr (.inr ⟨p, vs, rfl, .inr h1, flat_of hx h.1, flatAll_of h3 h.2, ?_⟩)
      rw [e]
      exact GE.now o i (.bl _)
    · exact o.elim
  · exact o.elim

/-! ### items, slices -/
def ixS (a b : SV) : R SV := match a, b with
  | .d (.list xs), .d (.int i) => (match atI xs i with | some d => .ok (.d d) | none => .bad)
  | .ol xs, .d (.int i) => (match atI xs i with | some d => .ok (.d d) | none => .bad)
  | .d (.tuple xs), .d (.int i) => (match atI xs i with | some d => .ok (.d d) | none => .bad)
  | .d (.str z), .d (.int i) => if z.length ≤ sizeLine then (match atI z.cps.toList i with | some c => .ok (.d (.str ⟨#[c]⟩)) | none => .bad) else .bad
  | _, _ => .bad
theorem dpAll_at {K : PySem.W.Frag} {H : Hp} {vs : List V} {ds : List D} {i : Int} {d : D} (h : DpAll K H vs ds) (e : atI ds i = some d) : ∃ v, atI vs i = some v ∧ Dp K H v d := by
  unfold atI at e ⊢
  rw [dpAll_len h]
  cases q : ixN ds.length i with
  | none => rw [q] at e; cases e
  | some j =>
    rw [q] at e
    exact dpAll_get h e
theorem r2_ix {c : Ct} : R2ok c (rIx c.K) ixS := by
  intro Hf H x y rx ry Q i hx hy o
  unfold ixS at o
  split at o
  · split at o
    · rename_i e
      cases hy
      cases hx with
      | lst h1 h2 =>
        obtain ⟨v, e1, e2⟩ := dpAll_at h2 e
        exact .inl ⟨_, _, _, v, rfl, rfl, i.seq h1, e1, GE.now o i e2⟩
    · exact o.elim
  · split at o
    · rename_i e
      cases hy
      obtain ⟨p, vs, rfl, h1, h2, h3⟩ := hx
      obtain ⟨v, e1, e2⟩ := dpAll_at h3 e
      exact .inl ⟨_, _, _, v, rfl, rfl, .inl (.inl h1), e1, GE.now o i e2⟩
    · exact o.elim
  · split at o
    · rename_i e
      cases hy
      obtain ⟨p, vs, rfl, h1, _, h3⟩ := rep_tup i hx
      obtain ⟨v, e1, e2⟩ := dpAll_at h3 e
      exact .inr (.inl ⟨_, _, _, v, rfl, rfl, h1, e1, GE.now o i e2⟩)
    · exact o.elim
  · split at o
    · rename_i hz
      split at o
      · rename_i e
        cases hx; cases hy
        exact .inr (.inr ⟨_, _, _, rfl, rfl, hz, e, GE.now o i (.str _)⟩)
      · exact o.elim
    · exact o.elim
  · exact o.elim
def cutD {α : Type} (xs : List α) (lo hi : Option Int) : List α := (xs.drop (HT.sIx xs.length 0 lo)).take (HT.sIx xs.length xs.length hi - HT.sIx xs.length 0 lo)
theorem dpAll_cut {K : PySem.W.Frag} {H : Hp} {vs : List V} {ds : List D} {lo hi : Option Int} (h : DpAll K H vs ds) : DpAll K H (cutV vs lo hi) (cutD ds lo hi) := by
  unfold cutV cutD
  rw [dpAll_len h]
  exact dpAll_take _ (dpAll_drop _ h)
def slS (a : SV) (lo hi : Option Int) : R SV := match a with
  | .d (.list xs) => .ok (.ol (cutD xs lo hi))
  | .ol xs => .ok (.ol (cutD xs lo hi))
  | .d (.tuple xs) => .ok (.d (.tuple (cutD xs lo hi)))
  | .d (.str z) => if z.length ≤ sizeLine then .ok (.d (.str (cutS z lo hi))) else .bad
  | _ => .bad
abbrev rSl (K : PySem.W.Frag) : V → Option Int → Option Int → Hp → VK → Prop := fun x lo hi H Q => rSlL K x lo hi H Q ∨ (rSlA K x lo hi H Q ∨ rSlS x lo hi H Q)
theorem o_sl {X : Cx} : SlR X (rSl X.K) := sl_list.or (sl_tupA.or sl_str)
theorem sIx_whole {α : Type} {xs : List α} {lo hi : Option Int} (h : HT.sIx xs.length 0 lo = 0 ∧ HT.sIx xs.length xs.length hi = xs.length) : cutD xs lo hi = xs := by
  unfold cutD
  rw [h.1, h.2]
  simp
theorem slS_ok {c : Ct} {Hf H : Hp} {x : V} {r : SV} {lo hi : Option Int} {Q : VK} (i : Same Hf H) (hx : RepR c.K Hf H x r) (o : Out c Hf H (slS r lo hi) (GE c true Hf H Q)) : rSl c.K x lo hi H Q := by
  unfold slS at o
  split at o
  · obtain ⟨p, vs, rfl, h1, h2⟩ := rep_list i hx (.inl rfl)
    exact .inl ⟨p, vs, rfl, h1, fun q hq => GE.newL o i hq (dpAll_cut h2)⟩
  · obtain ⟨p, vs, rfl, h1, h2⟩ := rep_list i hx (.inr rfl)
    exact .inl ⟨p, vs, rfl, h1, fun q hq => GE.newL o i hq (dpAll_cut h2)⟩
  · obtain ⟨p, vs, rfl, h1, h1f, h3⟩ := rep_tup i hx
    refine .inr (.inl ⟨p, vs, rfl, h1, fun e => ?_, fun _ q hq => GE.newT o i hq (dpAll_cut h3)⟩)
    rw [dpAll_len h3] at e
    rw [sIx_whole e] at o
    exact GE.now o i (.tup h1f h3)
  · split at o
    · rename_i hz
      cases hx
      exact .inr (.inr ⟨_, rfl, hz, GE.now o i (.str _)⟩)
    · exact o.elim
  · exact o.elim
def SemO (c : Ct) (t : TO) (f : En → R (Option Int)) : Prop := ∀ B H0 Hf H σ ρ Q, EnvOk c.K B H0 Hf H σ ρ → Out c Hf H (f ρ) (fun o => ∀ Hf' H', Ext Hf H Hf' H' → Q o H') → t σ H Q
def noO : En → R (Option Int) := fun _ => .ok none
def someO (f : En → R SV) : En → R (Option Int) := fun ρ => f ρ >>= fun a => match a with
  | .d (.int i) => .ok (some i)
  | _ => .bad
theorem sem_noO {c : Ct} : SemO c tNoPart noO := fun B H0 Hf H σ ρ Q I o => o Hf H (.refl I.i)
theorem sem_someO {c : Ct} {t : TE} {f : En → R SV} (h : SemE c false t f) : SemO c (tPart t) (someO f) := by
  intro B H0 Hf H σ ρ Q I o
  refine h B H0 Hf H σ ρ _ I (Out.bind o fun a ea o1 => fun v Hf1 H1 x1 q1 _ => ?_)
  split at o1
  · cases q1; exact ⟨_, rfl, o1 _ _ x1⟩
  · exact o1.elim
def slice (fe : En → R SV) (fl fh : En → R (Option Int)) : En → R SV := fun ρ => fe ρ >>= fun a => fl ρ >>= fun l => fh ρ >>= fun h => slS a l h
theorem sem_slice {c : Ct} {te : TE} {tl th : TO} {fe : En → R SV} {fl fh : En → R (Option Int)} (he : SemE c false te fe) (hl : SemO c tl fl) (hh : SemO c th fh) : SemE c true (tSl (rSl c.K) te tl th) (slice fe fl fh) := by
  intro B H0 Hf H σ ρ Q I o
  refine he B H0 Hf H σ ρ _ I (Out.bind o fun a ea o1 => fun v Hf1 H1 x1 q1 _ => ?_)
  refine hl B H0 Hf1 H1 σ ρ _ (I.grow x1) (Out.bind (o1.grow x1 fun _ z => z) fun l el o2 => fun Hf2 H2 x2 => ?_)
  refine hh B H0 Hf2 H2 σ ρ _ ((I.grow x1).grow x2) (Out.bind (o2.grow x2 fun _ z => z) fun h eh o3 => fun Hf3 H3 x3 => ?_)
  exact slS_ok x3.i ((q1.grow x2).grow x3) (o3.grow x3 fun _ g => ((g.grow x1).grow x2).grow x3)
end Pl
namespace Pl
open PySem PySem.Spec PyProof.Rows L2
section
variable {c : Ct}

/-! ### tests -/
def bool1 : SV → R Bool
  | .d (.bool b) => .ok b
  | _ => .bad
def asT (f : En → R SV) : En → R Bool := fun ρ => f ρ >>= bool1
theorem sem_tB {b : Bool} {t : TE} {f : En → R SV} (h : SemE c b t f) : SemT c (tB t) (asT f) := by
  intro B H0 Hf H σ ρ Q I o
  refine h B H0 Hf H σ ρ _ I (Out.bind o fun a ea o1 => fun v Hf1 H1 x1 q1 _ => ?_)
  unfold bool1 at o1
  split at o1
  · cases q1; exact ⟨_, rfl, o1 _ _ x1⟩
  · exact o1.elim
theorem sem_tTest {b : Bool} {t : TE} {f : En → R SV} (h : SemE c b t f) : SemT c (tTest t) (asT f) := sem_tB h
def truD : D → R Bool
  | .none => .ok false
  | .bool b => .ok b
  | .int i => .ok (i != 0)
  | .str y => if y.length ≤ sizeLine then .ok ((y.length : Int) != 0) else .bad
  | .list xs => .ok (!xs.isEmpty)
  | .tuple xs => .ok (!xs.isEmpty)
  | .dict _ => .bad
def truS : SV → R Bool
  | .d x => truD x
  | .ol xs => .ok (!xs.isEmpty)
  | .od kvs => .ok (!kvs.isEmpty)
  | .pin xs => .ok (!xs.isEmpty)
  | .exn _ _ => .bad
  | .pd _ => .bad
  | .kd _ => .bad
  | .sk _ => .bad
  | .sd _ => .bad
  | .so _ _ => .bad
  | .rw _ _ _ _ => .bad
  | .oi _ _ => .bad
def tru (f : En → R SV) : En → R Bool := fun ρ => f ρ >>= truS
theorem dpAll_emp {K : PySem.W.Frag} {H : Hp} {vs : List V} {ds : List D} (h : DpAll K H vs ds) : vs.isEmpty = ds.isEmpty := by cases h <;> rfl
theorem truS_ok {Hf H : Hp} {v : V} {r : SV} {k : Bool} (i : Same Hf H) (q : RepR c.K Hf H v r) (e : truS r = .ok k) : TruV c.K v H k := by
  cases r with
  | d x =>
    cases q with
    | non => cases e; rfl
    | bl b => cases e; rfl
    | int n => cases e; rfl
    | str y =>
      unfold truS truD at e
      dsimp only at e
      split at e
      · rename_i h; cases e; exact ⟨h, rfl⟩
      · cases e
    | lst h1 h2 => cases e; exact .inl ⟨_, i.seq h1, by rw [dpAll_emp h2]⟩
    | tup h1 h2 => cases e; exact .inr (.inl ⟨_, sqT_mono i h1, by rw [dpAll_emp h2]⟩)
  | ol xs => cases e; obtain ⟨p, vs, rfl, h1, h2, h3⟩ := q; exact .inl ⟨_, .inl (.inl h1), by rw [dpAll_emp h3]⟩
  | od kvs =>
    cases e; obtain ⟨p, vs, rfl, h1, h2, h3⟩ := q
    refine .inr (.inr ⟨_, h1, ?_⟩)
    cases h3 <;> rfl
  | pin xs => cases e; obtain ⟨p, vs, rfl, h1, h2, h3⟩ := q; exact .inl ⟨_, .inl (.inl h1), by rw [dpAll_emp h3]⟩
  | exn n as => cases e
  | pd kvs => cases e
  | kd kvs => cases e
  | sk kvs => cases e
  | sd kvs => cases e
  | so C fs => cases e
  | rw _ _ _ _ => cases e
  | oi C fs => cases e
theorem sem_tru {t : TE} {f : En → R SV} (h : SemE c false t f) : SemT c (fun σ H Q => t σ H fun x H' => ∃ k, TruV c.K x H' k ∧ Q k H') (tru f) := by
  intro B H0 Hf H σ ρ Q I o
  refine h B H0 Hf H σ ρ _ I (Out.bind o fun a ea o1 => fun v Hf1 H1 x1 q1 _ => ?_)
  cases e : truS a with
  | ok k => rw [e] at o1; exact ⟨k, truS_ok x1.i q1 e, o1 _ _ x1⟩
  | bad => rw [e] at o1; exact o1.elim
  | ex n as =>
    exfalso
    unfold truS truD at e
    split at e
    · split at e <;> first | cases e | (split at e <;> cases e)
    all_goals cases e
def andT (f g : En → R Bool) : En → R Bool := fun ρ => f ρ >>= fun b => if b = true then g ρ else .ok false
def orT (f g : En → R Bool) : En → R Bool := fun ρ => f ρ >>= fun b => if b = true then .ok true else g ρ
def notT (f : En → R Bool) : En → R Bool := fun ρ => f ρ >>= fun b => .ok (!b)
theorem sem_and {t u : TT} {f g : En → R Bool} (h1 : SemT c t f) (h2 : SemT c u g) : SemT c (tAnd t u) (andT f g) := by
  intro B H0 Hf H σ ρ Q I o
  refine h1 B H0 Hf H σ ρ _ I (Out.bind o fun a ea o1 => fun Hf1 H1 x1 => ?_)
  cases a with
  | true => exact iteT (h2 B H0 Hf1 H1 σ ρ _ (I.grow x1) (o1.grow x1 fun _ g => g.grow x1))
  | false => exact iteF (o1 _ _ x1)
theorem sem_or {t u : TT} {f g : En → R Bool} (h1 : SemT c t f) (h2 : SemT c u g) : SemT c (tOr t u) (orT f g) := by
  intro B H0 Hf H σ ρ Q I o
  refine h1 B H0 Hf H σ ρ _ I (Out.bind o fun a ea o1 => fun Hf1 H1 x1 => ?_)
  cases a with
  | true => exact iteT (o1 _ _ x1)
  | false => exact iteF (h2 B H0 Hf1 H1 σ ρ _ (I.grow x1) (o1.grow x1 fun _ g => g.grow x1))
theorem sem_not {t : TT} {f : En → R Bool} (h1 : SemT c t f) : SemT c (tNot t) (notT f) := by
  intro B H0 Hf H σ ρ Q I o
  refine h1 B H0 Hf H σ ρ _ I (Out.bind o fun a ea o1 => fun Hf1 H1 x1 => o1 _ _ x1)
/-! ### and, or, not as values; a if t else b -/
def andV (f g : En → R SV) : En → R SV := fun ρ => f ρ >>= bool1 >>= fun b => if b = true then g ρ else .ok (.d (.bool false))
def orV (f g : En → R SV) : En → R SV := fun ρ => f ρ >>= bool1 >>= fun b => if b = true then .ok (.d (.bool true)) else g ρ
def notV (f : En → R SV) : En → R SV := fun ρ => f ρ >>= bool1 >>= fun b => .ok (.d (.bool !b))
def notN (f : En → R SV) : En → R SV := fun ρ => f ρ >>= truS >>= fun b => .ok (.d (.bool !b))
theorem bool1_ok {K : Kx} {Hf H : Hp} {v : V} {r : SV} {b : Bool} (q : RepR K Hf H v r) (e : bool1 r = .ok b) : v = .bl b := by
  unfold bool1 at e
  split at e
  · cases e; cases q; rfl
  · cases e
theorem out_bool {α : Type} {Hf H : Hp} {a : SV} {k : Bool → R α} {G : α → Prop} (o : Out c Hf H (bool1 a >>= k) G) : ∃ b, bool1 a = .ok b ∧ Out c Hf H (k b) G := by
  cases e : bool1 a with
  | ok b => rw [e] at o; exact ⟨b, rfl, o⟩
  | bad => rw [e] at o; exact o.elim
  | ex n as => exfalso; unfold bool1 at e; split at e <;> cases e
theorem sem_andV {b : Bool} {t u : TE} {f g : En → R SV} (h1 : SemE c false t f) (h2 : SemE c b u g) : SemE c b (tAndV t u) (andV f g) := by
  intro B H0 Hf H σ ρ Q I o
  unfold andV at o
  rw [bind_assoc'] at o
  refine h1 B H0 Hf H σ ρ _ I (Out.bind o fun a ea o1 => fun v Hf1 H1 x1 q1 _ => ?_)
  obtain ⟨k, e, o2⟩ := out_bool o1
  refine ⟨k, bool1_ok q1 e, ?_⟩
  cases k with
  | true => exact iteT (h2 B H0 Hf1 H1 σ ρ _ (I.grow x1) (o2.grow x1 fun _ g => g.grow x1))
  | false => exact iteF (GE.now (GE.grow (show GE c b Hf H Q _ from o2) x1) x1.i (.bl _))
theorem sem_orV {b : Bool} {t u : TE} {f g : En → R SV} (h1 : SemE c false t f) (h2 : SemE c b u g) : SemE c b (tOrV t u) (orV f g) := by
  intro B H0 Hf H σ ρ Q I o
  unfold orV at o
  rw [bind_assoc'] at o
  refine h1 B H0 Hf H σ ρ _ I (Out.bind o fun a ea o1 => fun v Hf1 H1 x1 q1 _ => ?_)
  obtain ⟨k, e, o2⟩ := out_bool o1
  refine ⟨k, bool1_ok q1 e, ?_⟩
  cases k with
  | true => exact iteT (GE.now (GE.grow (show GE c b Hf H Q _ from o2) x1) x1.i (.bl _))
  | false => exact iteF (h2 B H0 Hf1 H1 σ ρ _ (I.grow x1) (o2.grow x1 fun _ g => g.grow x1))
theorem sem_notV {b : Bool} {t : TE} {f : En → R SV} (h1 : SemE c false t f) : SemE c b (tNotV t) (notV f) := by
  intro B H0 Hf H σ ρ Q I o
  unfold notV at o
  rw [bind_assoc'] at o
  refine h1 B H0 Hf H σ ρ _ I (Out.bind o fun a ea o1 => fun v Hf1 H1 x1 q1 _ => ?_)
  obtain ⟨k, e, o2⟩ := out_bool o1
  exact ⟨k, bool1_ok q1 e, GE.now (GE.grow (show GE c b Hf H Q _ from o2) x1) x1.i (.bl _)⟩
theorem sem_notN {b : Bool} {t : TE} {f : En → R SV} (h1 : SemE c false t f) : SemE c b (tNotT c.K t) (notN f) := by
  intro B H0 Hf H σ ρ Q I o
  unfold notN at o
  rw [bind_assoc'] at o
  refine h1 B H0 Hf H σ ρ _ I (Out.bind o fun a ea o1 => fun v Hf1 H1 x1 q1 _ => ?_)
  cases e : truS a with
  | ok k => rw [e] at o1; exact ⟨k, truS_ok x1.i q1 e, GE.now (GE.grow (show GE c b Hf H Q _ from o1) x1) x1.i (.bl _)⟩
  | bad => rw [e] at o1; exact o1.elim
  | ex n as =>
    exfalso
    unfold truS truD at e
    split at e
    · split at e <;> first | cases e | (split at e <;> cases e)
    all_goals cases e
def iff' (t : En → R Bool) (f g : En → R SV) : En → R SV := fun ρ => t ρ >>= fun b => if b = true then f ρ else g ρ
theorem sem_ifE {b : Bool} {t : TT} {u v : TE} {ft : En → R Bool} {f g : En → R SV} (h : SemT c t ft) (h1 : SemE c b u f) (h2 : SemE c b v g) : SemE c b (tIf t u v) (iff' ft f g) := by
  intro B H0 Hf H σ ρ Q I o
  refine h B H0 Hf H σ ρ _ I (Out.bind o fun a ea o1 => fun Hf1 H1 x1 => ?_)
  cases a with
  | true => exact iteT (h1 B H0 Hf1 H1 σ ρ _ (I.grow x1) (o1.grow x1 fun _ g => g.grow x1))
  | false => exact iteF (h2 B H0 Hf1 H1 σ ρ _ (I.grow x1) (o1.grow x1 fun _ g => g.grow x1))
def chain (g g' : SV → SV → R SV) (fa fb fc : En → R SV) : En → R SV := fun ρ => fa ρ >>= fun a => fb ρ >>= fun b => g a b >>= fun z => bool1 z >>= fun k => if k = true then fc ρ >>= fun w => g' b w else .ok (.d (.bool false))
theorem sem_chain {r r' : R2} {g g' : SV → SV → R SV} {ta tb tc : TE} {fa fb fc : En → R SV} (hr : R2ok c r g) (hr' : R2ok c r' g') (ha : SemE c false ta fa) (hb : SemE c false tb fb) (hc : SemE c false tc fc) :
    SemE c true (tChain r r' ta tb tc) (chain g g' fa fb fc) := by
  intro B H0 Hf H σ ρ Q I o
  refine ha B H0 Hf H σ ρ _ I (Out.bind o fun a ea o1 => fun v Hf1 H1 x1 q1 _ => ?_)
  refine hb B H0 Hf1 H1 σ ρ _ (I.grow x1) (Out.bind (o1.grow x1 fun _ z => z) fun b eb o2 => fun u Hf2 H2 x2 q2 _ => ?_)
  refine hr Hf2 H2 v u a b _ x2.i (q1.grow x2) q2 (Out.bind (o2.grow x2 fun _ z => z) fun z ez o3 => fun w Hf3 H3 x3 q3 _ => ?_)
  obtain ⟨k, e, o4⟩ := out_bool o3
  refine ⟨k, bool1_ok q3 e, ?_⟩
  have X := (x1.trans x2).trans x3
  cases k with
  | true =>
    refine iteT (hc B H0 Hf3 H3 σ ρ _ (I.grow X) (Out.bind (o4.grow x3 fun _ z => z) fun y ey o5 => fun w2 Hf4 H4 x4 q4 _ => ?_))
    exact hr' Hf4 H4 u w2 b y Q x4.i (((q2.grow x3).grow x4)) q4 (o5.grow x4 fun _ g => GE.grow g (X.trans x4))
  | false => exact iteF (GE.now (GE.grow (show GE c true Hf H Q _ from o4) X) X.i (.bl _))

/-! ### argument lists -/
def nilA : En → R (List D) := fun _ => .ok []
def conA (f : En → R SV) (g : En → R (List D)) : En → R (List D) := fun ρ => f ρ >>= fun a => datS a >>= fun d => g ρ >>= fun ds => .ok (d :: ds)
theorem sem_nilA : SemA c tNil nilA := fun B H0 Hf H σ ρ Q I o => o [] Hf H (.refl I.i) .nil
theorem out_dat {α : Type} {Hf H : Hp} {a : SV} {k : D → R α} {G : α → Prop} (o : Out c Hf H (datS a >>= k) G) : ∃ d, datS a = .ok d ∧ Out c Hf H (k d) G := by
  cases e : datS a with
  | ok b => rw [e] at o; exact ⟨b, rfl, o⟩
  | bad => rw [e] at o; exact o.elim
  | ex n as => cases a <;> cases e
theorem sem_conA {te : TE} {t : TA} {f : En → R SV} {g : En → R (List D)} (h : SemE c true te f) (h' : SemA c t g) : SemA c (tCons te t) (conA f g) := by
  intro B H0 Hf H σ ρ Q I o
  refine h B H0 Hf H σ ρ _ I (Out.bind o fun a ea o1 => fun v Hf1 H1 x1 q1 fr => ?_)
  obtain ⟨d, e, o2⟩ := out_dat o1
  obtain ⟨Hf2, x2, q2⟩ := froze x1 q1 (fr rfl) e
  refine h' B H0 Hf2 H1 σ ρ _ (I.grow x2) (Out.bind (o2.grow x2 fun _ z => z) fun ds eds o3 => fun vs Hf3 H3 x3 q3 => ?_)
  exact (show GA c Hf H Q (d :: ds) from o3) (v :: vs) Hf3 H3 (x2.trans x3) (.cons (dp_mono x3.f q2) q3)
def nilB : En → R (List SV) := fun _ => .ok []
def conB (f : En → R SV) (g : En → R (List SV)) : En → R (List SV) := fun ρ => f ρ >>= fun a => g ρ >>= fun ds => .ok (a :: ds)
theorem sem_nilB : SemB c tNil nilB := fun B H0 Hf H σ ρ Q I o => o [] Hf H (.refl I.i) .nil
theorem sem_conB {te : TE} {t : TA} {f : En → R SV} {g : En → R (List SV)} (h : SemE c false te f) (h' : SemB c t g) : SemB c (tCons te t) (conB f g) := by
  intro B H0 Hf H σ ρ Q I o
  refine h B H0 Hf H σ ρ _ I (Out.bind o fun a ea o1 => fun v Hf1 H1 x1 q1 _ => ?_)
  refine h' B H0 Hf1 H1 σ ρ _ (I.grow x1) (Out.bind (o1.grow x1 fun _ z => z) fun ds eds o3 => fun vs Hf3 H3 x3 q3 => ?_)
  exact (show GB c Hf H Q (a :: ds) from o3) (v :: vs) Hf3 H3 (x1.trans x3) (.cons (q1.grow x3) q3)
/-! ### displays -/
def dispT (f : En → R (List D)) : En → R SV := fun ρ => f ρ >>= fun ds => if ds.length ≤ 1000 then .ok (.d (.tuple ds)) else .bad
def dispL (f : En → R (List D)) : En → R SV := fun ρ => f ρ >>= fun ds => if ds.length ≤ 1000 then .ok (.ol ds) else .bad
theorem sem_tup {t : TA} {f : En → R (List D)} (h : SemA c t f) : SemE c true (tTup t) (dispT f) := by
  intro B H0 Hf H σ ρ Q I o
  refine h B H0 Hf H σ ρ _ I (Out.bind o fun ds eds o1 => fun vs Hf1 H1 x1 q1 => ?_)
  split at o1
  · rename_i hl
    exact ⟨Nat.le_of_lt (small1000 (by rw [dpAll_len q1]; exact hl)), fun p hp => GE.newT (GE.grow (show GE c true Hf H Q _ from o1) x1) x1.i hp q1⟩
  · exact o1.elim
theorem sem_lst {t : TA} {f : En → R (List D)} (h : SemA c t f) : SemE c true (tLst t) (dispL f) := by
  intro B H0 Hf H σ ρ Q I o
  refine h B H0 Hf H σ ρ _ I (Out.bind o fun ds eds o1 => fun vs Hf1 H1 x1 q1 => ?_)
  split at o1
  · rename_i hl
    exact ⟨Nat.le_of_lt (small1000 (by rw [dpAll_len q1]; exact hl)), fun p hp => GE.newL (GE.grow (show GE c true Hf H Q _ from o1) x1) x1.i hp q1⟩
  · exact o1.elim

/-! ### a def's promise, and its call -/
def spF (w : World) (K : PySem.W.Frag) (cm : Nat → Addr × List Str) (n : Nat) (g : List D → R SV) : Sp := fun vs H Q E => vs.length = n ∧ ∃ (ex : Exi) (Hf : Hp) (ds : List D), Same Hf H ∧ DpAll K Hf vs ds ∧ Out ⟨⟨K, ex, w⟩, cm, E⟩ Hf H (g ds) (GE ⟨⟨K, ex, w⟩, cm, E⟩ true Hf H Q)
def callF (n : Nat) (g : List D → R SV) (f : En → R (List D)) : En → R SV := fun ρ => f ρ >>= fun ds => if ds.length = n then g ds else .bad
theorem sem_call {n : Nat} {g : List D → R SV} {t : TA} {f : En → R (List D)} (h : SemA c t f) : SemE c true (tCall (spF c.K.w c.K c.cm n g) [] c.E t) (callF n g f) := by
  intro B H0 Hf H σ ρ Q I o
  refine h B H0 Hf H σ ρ _ I (Out.bind o fun ds eds o1 => fun vs Hf1 H1 x1 q1 => ?_)
  split at o1
  · rename_i hl
    rw [List.append_nil]
    exact ⟨by rw [dpAll_len q1]; exact hl, c.K.x, Hf1, ds, x1.i, q1, o1.grow x1 fun _ g => g.grow x1⟩
  · exact o1.elim
def scalD : D → Bool := flat
def scalS : SV → Bool
  | .d x => flat x
  | _ => false
/-- what is lent -/
def lookS : SV → R D
  | .d x => .ok x
  | .ol xs => .ok (.list xs)
  | .od _ => .bad
  | .pin xs => .ok (.list xs)
  | .exn _ _ => .bad
  | .pd _ => .bad
  | .kd _ => .bad
  | .sk _ => .bad
  | .sd _ => .bad
  | .so _ _ => .bad
  | .rw _ _ _ _ => .bad
  | .oi _ _ => .bad
theorem lookS_ok {Hf H : Hp} {v : V} {r : SV} {d : D} (i : Same Hf H) (q : RepR c.K Hf H v r) (e : lookS r = .ok d) : Dp c.K H v d := by
  cases r with
  | d y => cases e; exact dp_mono i q
  | ol xs =>
    cases e
    obtain ⟨p, vs, rfl, h1, h2, h3⟩ := q
    exact .lst (.inl (.inl h1)) (dpAll_mono i h3)
  | od kvs => cases e
  | pin xs =>
    cases e
    obtain ⟨p, vs, rfl, h1, h2, h3⟩ := q
    exact .lst (.inl (.inl h1)) (dpAll_mono i h3)
  | exn n as => cases e
  | pd kvs => cases e
  | kd kvs => cases e
  | sk kvs => cases e
  | sd kvs => cases e
  | so C fs => cases e
  | rw _ _ _ _ => cases e
  | oi C fs => cases e
def datsS : List SV → R (List D)
  | [] => .ok []
  | a :: r => lookS a >>= fun d => datsS r >>= fun ds => .ok (d :: ds)
theorem datsS_ok {Hf H : Hp} (i : Same Hf H) : ∀ {vs : List V} {rs : List SV} {ds : List D}, RepRs c.K Hf H vs rs → datsS rs = .ok ds → DpAll c.K H vs ds
  | _, _, _, .nil, e => by cases e; exact .nil
  | _, _, _, .cons (r := r) (rs := rs) a b, e => by
    unfold datsS at e
    cases e1 : lookS r with
    | ok d =>
      rw [e1, ok_bind] at e
      cases e2 : datsS rs with
      | ok ds' => rw [e2, ok_bind] at e; cases e; exact .cons (lookS_ok i a e1) (datsS_ok i b e2)
      | bad => rw [e2] at e; cases e
      | ex n as => rw [e2] at e; cases e
    | bad => rw [e1] at e; cases e
    | ex n as => rw [e1] at e; cases e
/-- a call whose arguments may be lists of this frame: its answer holds none of them -/
def callP (n : Nat) (g : List D → R SV) (f : En → R (List SV)) : En → R SV := fun ρ => f ρ >>= fun rs => match datsS rs with
  | .ok ds => if ds.length = n then (match g ds with
      | .ok r => if scalS r = true then .ok r else .bad
      | _ => .bad) else .bad
  | _ => .bad
theorem flat_any {K : PySem.W.Frag} {Hf Hf' : Hp} {v : V} {d : D} (h : Dp K Hf v d) (f : flat d = true) : Dp K Hf' v d := by
  cases h with
  | non => exact .non
  | bl b => exact .bl b
  | int i => exact .int i
  | str x => exact .str x
  | lst _ _ => cases f
  | tup _ _ => cases f
theorem sem_callP {n : Nat} {g : List D → R SV} {t : TA} {f : En → R (List SV)} (h : SemB c t f) : SemE c true (tCall (spF c.K.w c.K c.cm n g) [] c.E t) (callP n g f) := by
  intro B H0 Hf H σ ρ Q I o
  refine h B H0 Hf H σ ρ _ I (Out.bind o fun rs ers o1 => fun vs Hf1 H1 x1 q1 => ?_)
  cases e1 : datsS rs with
  | bad => simp only [e1] at o1; exact o1.elim
  | ex n as => simp only [e1] at o1; exact o1.elim
  | ok ds =>
    simp only [e1] at o1
    have q2 := datsS_ok (c := c) x1.i q1 e1
    split at o1
    · rename_i hl
      rw [List.append_nil]
      refine ⟨by rw [dpAll_len q2]; exact hl, c.K.x, H1, ds, .refl _, q2, ?_⟩
      cases e2 : g ds with
      | bad => simp only [e2] at o1; exact o1.elim
      | ex n as => simp only [e2] at o1; exact o1.elim
      | ok r =>
        simp only [e2] at o1
        split at o1
        · rename_i hs
          intro v Hf2 H2 x2 q3 _
          cases r with
          | d x => exact GE.now (GE.grow (show GE c true Hf H Q _ from o1) ⟨x1.f, x1.h.trans x2.h, x1.i.trans x2.h, fun p e => (x1.n p e)⟩) (x1.i.trans x2.h) (flat_any q3 hs)
          | ol xs => cases hs
          | od kvs => cases hs
          | pin kvs => cases hs
          | exn n as => cases hs
          | pd kvs => cases hs
          | kd kvs => cases hs
          | sk kvs => cases hs
          | sd kvs => cases hs
          | so C fs => cases hs
          | rw _ _ _ _ => cases hs
          | oi C fs => cases hs
        · exact o1.elim
    · exact o1.elim

/-! ### built-ins -/
def C1ok (c : Ct) (r : List V → Hp → VK → Prop) (g : List SV → R SV) : Prop := ∀ Hf H vs rs Q, Same Hf H → RepRs c.K Hf H vs rs → Out c Hf H (g rs) (GE c true Hf H Q) → r vs H Q
def callB (g : List SV → R SV) (f : En → R (List SV)) : En → R SV := fun ρ => f ρ >>= g
theorem sem_callB {r : List V → Hp → VK → Prop} {g : List SV → R SV} {t : TA} {f : En → R (List SV)} (hr : C1ok c r g) (h : SemB c t f) : SemE c true (tCB r t) (callB g f) := by
  intro B H0 Hf H σ ρ Q I o
  refine h B H0 Hf H σ ρ _ I (Out.bind o fun rs ers o1 => fun vs Hf1 H1 x1 q1 => ?_)
  exact hr Hf1 H1 vs rs Q x1.i q1 (o1.grow x1 fun _ g => g.grow x1)
def lenS : List SV → R SV
  | [.d (.list xs)] => .ok (.d (.int xs.length))
  | [.ol xs] => .ok (.d (.int xs.length))
  | [.d (.tuple xs)] => .ok (.d (.int xs.length))
  | [.d (.str z)] => if z.length ≤ sizeLine then .ok (.d (.int z.length)) else .bad
  | _ => .bad
theorem c1_len : C1ok c (fun xs H Q => ∃ x n, xs = [x] ∧ LenV c.K x H n ∧ Q (.int n) H) lenS := by
  intro Hf H vs rs Q i h o
  unfold lenS at o
  split at o
  · cases h with
    | cons a b =>
      cases b
      obtain ⟨p, vs, rfl, h1, h2⟩ := rep_list i a (.inl rfl)
      exact ⟨_, _, rfl, .inl ⟨_, h1, (dpAll_len h2).symm⟩, GE.now o i (.int _)⟩
  · cases h with
    | cons a b =>
      cases b
      obtain ⟨p, vs, rfl, h1, h2⟩ := rep_list i a (.inr rfl)
      exact ⟨_, _, rfl, .inl ⟨_, h1, (dpAll_len h2).symm⟩, GE.now o i (.int _)⟩
  · cases h with
    | cons a b =>
      cases b
      obtain ⟨p, vs, rfl, h1, _, h2⟩ := rep_tup i a
      exact ⟨_, _, rfl, .inr ⟨_, h1, (dpAll_len h2).symm⟩, GE.now o i (.int _)⟩
  · split at o
    · rename_i hz
      cases h with
      | cons a b =>
        cases b
        cases a
        exact ⟨_, _, rfl, ⟨hz, rfl⟩, GE.now o i (.int _)⟩
    · exact o.elim
  · exact o.elim
def intS : List SV → R SV
  | [.d (.int n)] => .ok (.d (.int n))
  | [.d (.bool k)] => .ok (.d (.int (if k then 1 else 0)))
  | _ => .bad
theorem c1_int : C1ok c (fun xs H Q => (∃ i, xs = [.int i] ∧ Q (.int i) H) ∨ ∃ k, xs = [.bl k] ∧ Q (.int (if k then 1 else 0)) H) intS := by
  intro Hf H vs rs Q i h o
  unfold intS at o
  split at o
  · cases h with
    | cons a b => cases b; cases a; exact .inl ⟨_, rfl, GE.now o i (.int _)⟩
  · cases h with
    | cons a b => cases b; cases a; exact .inr ⟨_, rfl, GE.now o i (.int _)⟩
  · exact o.elim
def absS : List SV → R SV
  | [.d (.int n)] => .ok (.d (.int (if n < 0 then -n else n)))
  | _ => .bad
theorem c1_abs : C1ok c (fun xs H Q => ∃ i, xs = [.int i] ∧ Q (.int (if i < 0 then -i else i)) H) absS := by
  intro Hf H vs rs Q i h o
  unfold absS at o
  split at o
  · cases h with
    | cons a b => cases b; cases a; exact ⟨_, rfl, GE.now o i (.int _)⟩
  · exact o.elim
def max2S : List SV → R SV
  | [.d (.int a), .d (.int b)] => .ok (.d (.int (if b > a then b else a)))
  | _ => .bad
theorem c1_max2 : C1ok c (fun xs H Q => ∃ i j, xs = [.int i, .int j] ∧ Q (.int (if j > i then j else i)) H) max2S := by
  intro Hf H vs rs Q i h o
  unfold max2S at o
  split at o
  · cases h with
    | cons a b =>
      cases b with
      | cons b d => cases d; cases a; cases b; exact ⟨_, _, rfl, GE.now o i (.int _)⟩
  · exact o.elim
def min2S : List SV → R SV
  | [.d (.int a), .d (.int b)] => .ok (.d (.int (if b < a then b else a)))
  | _ => .bad
theorem c1_min2 : C1ok c (fun xs H Q => ∃ i j, xs = [.int i, .int j] ∧ Q (.int (if j < i then j else i)) H) min2S := by
  intro Hf H vs rs Q i h o
  unfold min2S at o
  split at o
  · cases h with
    | cons a b =>
      cases b with
      | cons b d => cases d; cases a; cases b; exact ⟨_, _, rfl, GE.now o i (.int _)⟩
  · exact o.elim
def listS : List SV → R SV
  | [.d (.list xs)] => .ok (.ol xs)
  | [.ol xs] => .ok (.ol xs)
  | [.d (.tuple xs)] => .ok (.ol xs)
  | _ => .bad
theorem c1_list : C1ok c (fun xs H Q => ∃ p ys, xs = [.ref p] ∧ (SqL c.K H p ys ∨ SqT c.K H p ys) ∧ ∀ l, H l = none → Q (.ref l) (upd H l (.lst ys))) listS := by
  intro Hf H vs rs Q i h o
  unfold listS at o
  split at o
  · cases h with
    | cons a b =>
      cases b
      obtain ⟨p, vs, rfl, h1, h2⟩ := rep_list i a (.inl rfl)
      exact ⟨_, _, rfl, .inl h1, fun l hl => GE.newL o i hl h2⟩
  · cases h with
    | cons a b =>
      cases b
      obtain ⟨p, vs, rfl, h1, h2⟩ := rep_list i a (.inr rfl)
      exact ⟨_, _, rfl, .inl h1, fun l hl => GE.newL o i hl h2⟩
  · cases h with
    | cons a b =>
      cases b
      obtain ⟨p, vs, rfl, h1, _, h2⟩ := rep_tup i a
      exact ⟨_, _, rfl, .inr h1, fun l hl => GE.newL o i hl h2⟩
  · exact o.elim
def tupS : List SV → R SV
  | [.d (.list xs)] => .ok (.d (.tuple xs))
  | [.ol xs] => .ok (.d (.tuple xs))
  | [.d (.tuple xs)] => .ok (.d (.tuple xs))
  | _ => .bad
theorem c1_tup : C1ok c (fun xs H Q => ∃ p ys, xs = [.ref p] ∧ ((SqL c.K H p ys ∧ ∀ l, H l = none → Q (.ref l) (upd H l (.tup ys))) ∨ (SqT c.K H p ys ∧ Q (.ref p) H))) tupS := by
  intro Hf H vs rs Q i h o
  unfold tupS at o
  split at o
  · cases h with
    | cons a b =>
      cases b
      obtain ⟨p, vs, rfl, h1, h2⟩ := rep_list i a (.inl rfl)
      exact ⟨_, _, rfl, .inl ⟨h1, fun l hl => GE.newT o i hl h2⟩⟩
  · cases h with
    | cons a b =>
      cases b
      obtain ⟨p, vs, rfl, h1, h2⟩ := rep_list i a (.inr rfl)
      exact ⟨_, _, rfl, .inl ⟨h1, fun l hl => GE.newT o i hl h2⟩⟩
  · cases h with
    | cons a b =>
      cases b
      obtain ⟨p, vs, rfl, h1, h1f, h2⟩ := rep_tup i a
      exact ⟨_, _, rfl, .inr ⟨h1, GE.now o i (.tup h1f h2)⟩⟩
  · exact o.elim
/-- isinstance(e, T), T a built-in type by name -/
def tyN : D → String
  | .none => "NoneType" | .bool _ => "bool" | .int _ => "int" | .str _ => "str" | .list _ => "list" | .tuple _ => "tuple" | .dict _ => "dict"
def isi (T : String) (f : En → R SV) : En → R SV := fun ρ => f ρ >>= fun a => datS a >>= fun d => match kitB (tyN d) T with
  | some b => .ok (.d (.bool b))
  | none => .bad
theorem tyX_of {H : Hp} {K : PySem.W.Frag} {v : V} {d : D} (h : Dp K H v d) : TyX K H v (.type (tyN d)) := by
  cases h with
  | non => exact .base .non
  | bl b => exact .base (.bl b)
  | int n => exact .base (.int n)
  | str x => exact .base (.str x)
  | lst h1 _ =>
    rcases h1 with (h1 | ⟨o, h1⟩) | ⟨o, its, n, h1, h2, _⟩
    · exact .base (.lst h1)
    · exact .base (.frz h1)
    · exact .kList h1 h2
  | tup h1 _ =>
    rcases h1 with (h1 | ⟨o, h1⟩) | ⟨o, its, n, h1, h2, _⟩
    · exact .base (.tup h1)
    · exact .fTuple h1
    · exact .kTuple h1 h2
theorem sem_isi {te : TE} {T : String} {f : En → R SV} (h : SemE c false te f) : SemE c true (tCB (rIsi c.K) (tCons te (tCons (tC (.ty T)) tNil))) (isi T f) := by
  intro B H0 Hf H σ ρ Q I o
  refine h B H0 Hf H σ ρ _ I (Out.bind o fun a ea o1 => fun v Hf1 H1 x1 q1 _ => ?_)
  obtain ⟨d, e, o2⟩ := out_dat o1
  split at o2
  · rename_i b eb
    exact ⟨v, .ty T, _, _, b, rfl, .ty T, tyX_of (looked (c := c) x1.i q1 e), kit_ty eb, GE.now (GE.grow (show GE c true Hf H Q _ from o2) x1) x1.i (.bl _)⟩
  · exact o2.elim
def bls : List D → Option (List Bool)
  | [] => some []
  | .bool b :: r => (bls r).map (b :: ·)
  | _ => none
def intsD : List D → Option (List Int)
  | [] => some []
  | .int b :: r => (intsD r).map (b :: ·)
  | _ => none
theorem bls_ok {K : PySem.W.Frag} {H : Hp} : ∀ {vs : List V} {ds : List D} {bs : List Bool}, DpAll K H vs ds → bls ds = some bs → vs = bs.map V.bl
  | _, _, _, .nil, e => by cases e; rfl
  | _, _, _, .cons (ds := r) a b, e => by
    cases a with
    | bl x =>
      unfold bls at e
      cases q : bls r with
      | none => rw [q] at e; cases e
      | some bs' => rw [q] at e; cases e; rw [bls_ok b q]; rfl
    | _ => cases e
theorem ints_ok {K : PySem.W.Frag} {H : Hp} : ∀ {vs : List V} {ds : List D} {bs : List Int}, DpAll K H vs ds → intsD ds = some bs → vs = bs.map V.int
  | _, _, _, .nil, e => by cases e; rfl
  | _, _, _, .cons (ds := r) a b, e => by
    cases a with
    | int x =>
      unfold intsD at e
      cases q : intsD r with
      | none => rw [q] at e; cases e
      | some bs' => rw [q] at e; cases e; rw [ints_ok b q]; rfl
    | _ => cases e
def anyS : List SV → R SV
  | [a] => datL a |> fun x => match x with
    | .ok xs => (match bls xs with | some bs => .ok (.d (.bool (bs.any id))) | none => .bad)
    | _ => .bad
  | _ => .bad
def allS : List SV → R SV
  | [a] => datL a |> fun x => match x with
    | .ok xs => (match bls xs with | some bs => .ok (.d (.bool (bs.all id))) | none => .bad)
    | _ => .bad
  | _ => .bad
theorem datL_ok {Hf H : Hp} {v : V} {r : SV} {xs : List D} (i : Same Hf H) (q : RepR c.K Hf H v r) (e : datL r = .ok xs) : ∃ p vs, v = .ref p ∧ SqL c.K H p vs ∧ DpAll c.K Hf vs xs := by
  unfold datL at e
  split at e
  · cases e; exact rep_list i q (.inl rfl)
  · cases e; exact rep_list i q (.inr rfl)
  · cases e
theorem c1_any : C1ok c (rAny c.K) anyS := by
  intro Hf H vs rs Q i h o
  unfold anyS at o
  split at o
  · dsimp only at o
    split at o
    · rename_i xs e
      split at o
      · rename_i bs eb
        cases h with
        | cons a b =>
          cases b
          obtain ⟨p, vs, rfl, h1, h2⟩ := datL_ok i a e
          rw [bls_ok h2 eb] at h1
          exact ⟨_, _, rfl, h1, GE.now o i (.bl _)⟩
      · exact o.elim
    · exact o.elim
  · exact o.elim
theorem c1_all : C1ok c (rAll c.K) allS := by
  intro Hf H vs rs Q i h o
  unfold allS at o
  split at o
  · dsimp only at o
    split at o
    · rename_i xs e
      split at o
      · rename_i bs eb
        cases h with
        | cons a b =>
          cases b
          obtain ⟨p, vs, rfl, h1, h2⟩ := datL_ok i a e
          rw [bls_ok h2 eb] at h1
          exact ⟨_, _, rfl, h1, GE.now o i (.bl _)⟩
      · exact o.elim
    · exact o.elim
  · exact o.elim
def sumS : List SV → R SV
  | [a] => datL a |> fun x => match x with
    | .ok xs => (match intsD xs with | some bs => .ok (.d (.int bs.sum)) | none => .bad)
    | _ => .bad
  | _ => .bad
theorem c1_sum : C1ok c (rSum c.K) sumS := by
  intro Hf H vs rs Q i h o
  unfold sumS at o
  split at o
  · dsimp only at o
    split at o
    · rename_i xs e
      split at o
      · rename_i bs eb
        cases h with
        | cons a b =>
          cases b
          obtain ⟨p, vs, rfl, h1, h2⟩ := datL_ok i a e
          rw [ints_ok h2 eb] at h1
          exact ⟨_, _, rfl, h1, GE.now o i (.int _)⟩
      · exact o.elim
    · exact o.elim
  · exact o.elim
def maxI : Int → List Int → Int
  | m, [] => m
  | m, x :: r => maxI (if m < x then x else m) r
def minI : Int → List Int → Int
  | m, [] => m
  | m, x :: r => minI (if x < m then x else m) r
theorem maxI_ge : ∀ (r : List Int) (m : Int), m ≤ maxI m r ∧ ∀ y ∈ r, y ≤ maxI m r
  | [], m => ⟨Int.le_refl _, fun _ h => nomatch h⟩
  | x :: r, m => by
    have ih := maxI_ge r (if m < x then x else m)
    unfold maxI
    refine ⟨?_, fun y hy => ?_⟩
    · have := ih.1; split at this <;> rename_i h <;> simp only [h, if_true, if_false] <;> omega
    · rcases List.mem_cons.mp hy with rfl | hy
      · have := ih.1; split at this <;> rename_i h <;> simp only [h, if_true, if_false] <;> omega
      · exact ih.2 y hy
theorem minI_le : ∀ (r : List Int) (m : Int), minI m r ≤ m ∧ ∀ y ∈ r, minI m r ≤ y
  | [], m => ⟨Int.le_refl _, fun _ h => nomatch h⟩
  | x :: r, m => by
    have ih := minI_le r (if x < m then x else m)
    unfold minI
    refine ⟨?_, fun y hy => ?_⟩
    · have := ih.1; split at this <;> rename_i h <;> simp only [h, if_true, if_false] <;> omega
    · rcases List.mem_cons.mp hy with rfl | hy
      · have := ih.1; split at this <;> rename_i h <;> simp only [h, if_true, if_false] <;> omega
      · exact ih.2 y hy
theorem maxI_mem : ∀ (r : List Int) (m : Int), maxI m r = m ∨ maxI m r ∈ r
  | [], m => .inl rfl
  | x :: r, m => by
    have ih := maxI_mem r (if m < x then x else m)
    unfold maxI
    rcases ih with ih | ih
    · split at ih <;> rename_i h <;> simp only [h, if_true, if_false]
      · rw [ih]; exact .inr List.mem_cons_self
      · exact .inl ih
    · exact .inr (List.mem_cons_of_mem _ ih)
theorem minI_mem : ∀ (r : List Int) (m : Int), minI m r = m ∨ minI m r ∈ r
  | [], m => .inl rfl
  | x :: r, m => by
    have ih := minI_mem r (if x < m then x else m)
    unfold minI
    rcases ih with ih | ih
    · split at ih <;> rename_i h <;> simp only [h, if_true, if_false]
      · rw [ih]; exact .inr List.mem_cons_self
      · exact .inl ih
    · exact .inr (List.mem_cons_of_mem _ ih)
def maxS : List SV → R SV
  | [a] => datL a |> fun x => match x with
    | .ok xs => (match intsD xs with | some (b :: r) => .ok (.d (.int (maxI b r))) | _ => .bad)
    | _ => .bad
  | _ => .bad
def minS : List SV → R SV
  | [a] => datL a |> fun x => match x with
    | .ok xs => (match intsD xs with | some (b :: r) => .ok (.d (.int (minI b r))) | _ => .bad)
    | _ => .bad
  | _ => .bad
theorem c1_max : C1ok c (rMax c.K) maxS := by
  intro Hf H vs rs Q i h o
  unfold maxS at o
  split at o
  · dsimp only at o
    split at o
    · rename_i xs e
      split at o
      · rename_i b' r eb
        cases h with
        | cons a b =>
          cases b
          obtain ⟨p, vs, rfl, h1, h2⟩ := datL_ok i a e
          rw [ints_ok h2 eb] at h1
          refine ⟨_, _, rfl, h1, by simp, fun m hm hy => ?_⟩
          have g := maxI_ge r b'
          have e2 : m = maxI b' r := by
            refine Int.le_antisymm ?_ (hy _ ?_)
            · rcases List.mem_cons.mp hm with rfl | hm
              · exact g.1
              · exact g.2 _ hm
            · rcases maxI_mem r b' with z | z
              · rw [z]; exact List.mem_cons_self
              · exact List.mem_cons_of_mem _ z
          subst e2
          exact GE.now o i (.int _)
      · exact o.elim
    · exact o.elim
  · exact o.elim
theorem c1_min : C1ok c (rMin c.K) minS := by
  intro Hf H vs rs Q i h o
  unfold minS at o
  split at o
  · dsimp only at o
    split at o
    · rename_i xs e
      split at o
      · rename_i b' r eb
        cases h with
        | cons a b =>
          cases b
          obtain ⟨p, vs, rfl, h1, h2⟩ := datL_ok i a e
          rw [ints_ok h2 eb] at h1
          refine ⟨_, _, rfl, h1, by simp, fun m hm hy => ?_⟩
          have g := minI_le r b'
          have e2 : m = minI b' r := by
            refine Int.le_antisymm (hy _ ?_) ?_
            · rcases minI_mem r b' with z | z
              · rw [z]; exact List.mem_cons_self
              · exact List.mem_cons_of_mem _ z
            · rcases List.mem_cons.mp hm with rfl | hm
              · exact g.1
              · exact g.2 _ hm
          subst e2
          exact GE.now o i (.int _)
      · exact o.elim
    · exact o.elim
  · exact o.elim
end
end Pl
namespace Pl
open PySem PySem.Spec PyProof.Rows L2
section
variable {c : Ct}

/-! ### rebasing -/
theorem Ext.unbase {B H0 Hf H Hf2 H2 : Hp} (x : Ext B H0 Hf H) (y : Ext Hf H0 Hf2 H2) : Ext B H0 Hf2 H2 :=
  ⟨x.f.trans y.f, y.h, y.i, fun p e => by
    rcases y.n p e with z | z
    · exact x.n p z
    · exact .inr z⟩
theorem Ext.rebase {B H0 Hf H : Hp} (x : Ext B H0 Hf H) : Ext Hf H0 Hf H := ⟨.refl _, x.h, x.i, fun _ e => .inl e⟩
theorem EnvOk.rebase {K : Kx} {B : Bs} {H0 Hf H : Hp} {σ : L2.St} {ρ : En} (I : EnvOk K B H0 Hf H σ ρ) : EnvOk K ⟨Hf, B.fx⟩ H0 Hf H σ ρ := ⟨I.ext.rebase, I.len, I.sl, I.new, I.sep, fun i xs e => by
    obtain ⟨p, o, h1, h2, h3, h4⟩ := I.pin i xs e
    refine ⟨p, o, h1, h2, h3, ?_⟩
    cases q : Hf p with
    | none => exact q
    | some o' =>
      rcases I.ext.n p (by rw [q]; exact fun z => nomatch z) with z | z
      · exact absurd h4 z
      · rw [h3] at z; cases z⟩
theorem EnvOk.unbase {K : Kx} {B : Bs} {H0 Hf H Hf2 H2 : Hp} {σ : L2.St} {ρ : En} (I : EnvOk K ⟨Hf, B.fx⟩ H0 Hf2 H2 σ ρ) (x : Ext B.h H0 Hf H) : EnvOk K B H0 Hf2 H2 σ ρ := ⟨x.unbase I.ext, I.len, I.sl, I.new, I.sep, fun i xs e => by
    obtain ⟨p, o, h1, h2, h3, h4⟩ := I.pin i xs e
    exact ⟨p, o, h1, h2, h3, x.f.free h4⟩⟩
theorem GS.rebase {B : Bs} {H0 Hf H : Hp} {Dn : Ends} {fl : Fl} (g : GS c B H0 Dn fl) (x : Ext B.h H0 Hf H) : GS c ⟨Hf, B.fx⟩ H0 Dn fl := by
  cases fl with
  | nx ρ => exact fun Hf2 H2 σ I => g _ _ _ (I.unbase x)
  | bk ρ => exact fun Hf2 H2 σ I => g _ _ _ (I.unbase x)
  | ct ρ => exact fun Hf2 H2 σ I => g _ _ _ (I.unbase x)
  | rt r => exact fun v Hf2 H2 y => g v _ _ (x.unbase y)
theorem ExW.rebase {B H0 Hf H : Hp} {n : Nat} {as : List D} (h : ExW c B H0 n as) (x : Ext B H0 Hf H) : ExW c Hf H0 n as := fun _ _ od y r => h _ _ od (x.unbase y) r
theorem Out.rebase {B : Bs} {H0 Hf H : Hp} {Dn : Ends} {x : R Fl} (o : Out c B.h H0 x (GS c B H0 Dn)) (e : Ext B.h H0 Hf H) : Out c Hf H0 x (GS c ⟨Hf, B.fx⟩ H0 Dn) := by
  cases x with
  | ok fl => exact GS.rebase (show GS c B H0 Dn fl from o) e
  | ex n as => exact ExW.rebase (show ExW c B.h H0 n as from o) e
  | bad => exact o

/-! ### slots -/
theorem set_get {α : Type} {l : List α} {i j : Nat} {a b : α} (h : (l.set i a)[j]? = some b) : (j = i ∧ a = b ∧ i < l.length) ∨ (j ≠ i ∧ l[j]? = some b) := by
  by_cases e : i = j
  · subst e
    by_cases hl : i < l.length
    · rw [List.getElem?_set_self hl] at h; cases h; exact .inl ⟨rfl, rfl, hl⟩
    · rw [List.getElem?_eq_none (by simpa using hl)] at h; cases h
  · rw [List.getElem?_set_ne e] at h; exact .inr ⟨fun z => e z.symm, h⟩
theorem EnvOk.set {K : Kx} {B : Bs} {H0 Hf H : Hp} {σ : L2.St} {ρ : En} {i : Nat} {v : V} {r : SV} (I : EnvOk K B H0 Hf H σ ρ) (np : r.npin = true) (q : RepR K Hf H v r) (fr : r.own = true → ∀ p, v = .ref p → H0 p = none ∧ ∀ (j : Nat) (s : SV), ρ[j]? = some (some s) → s.own = true → σ[j]? = some (some (.ref p)) → j = i) :
    EnvOk K B H0 Hf H (σ.set i (some v)) (ρ.set i (some r)) := by
  refine ⟨I.ext, by rw [List.length_set, List.length_set, I.len], fun j s e => ?_, fun j s p e o es => ?_, fun j k sj sk p ej oj ek ok e1 e2 => ?_, fun j xs e => ?_⟩
  · rcases set_get e with ⟨rfl, e, hl⟩ | ⟨hj, e⟩
    · cases e
      exact ⟨v, List.getElem?_set_self (by rw [I.len]; exact hl), q⟩
    · rw [List.getElem?_set_ne (Ne.symm hj)]; exact I.sl j s e
  · rcases set_get e with ⟨rfl, e, hl⟩ | ⟨hj, e⟩
    · cases e
      rw [List.getElem?_set_self (by rw [I.len]; exact hl)] at es
      cases es
      exact (fr o p rfl).1
    · rw [List.getElem?_set_ne (Ne.symm hj)] at es; exact I.new j s p e o es
  · rcases set_get ej with ⟨rfl, ej, hl⟩ | ⟨hj, ej⟩
    · cases ej
      rw [List.getElem?_set_self (by rw [I.len]; exact hl)] at e1
      cases e1
      rcases set_get ek with ⟨rfl, _, _⟩ | ⟨hk, ek⟩
      · rfl
      · rw [List.getElem?_set_ne (Ne.symm hk)] at e2
        exact absurd ((fr oj p rfl).2 k sk ek ok e2) hk
    · rw [List.getElem?_set_ne (Ne.symm hj)] at e1
      have ej' := ej
      rcases set_get ek with ⟨rfl, ek, hl⟩ | ⟨hk, ek⟩
      · cases ek
        rw [List.getElem?_set_self (by rw [I.len]; exact hl)] at e2
        cases e2
        exact (fr ok p rfl).2 j sj ej' oj e1
      · rw [List.getElem?_set_ne (Ne.symm hk)] at e2
        exact I.sep j k sj sk p ej oj ek ok e1 e2
  · rcases set_get e with ⟨rfl, e, hl⟩ | ⟨hj, e⟩
    · cases e; cases np
    · rw [List.getElem?_set_ne (Ne.symm hj)]; exact I.pin j xs e
/-- an owned place is tracked: a new place is another one -/
theorem EnvOk.own_at {K : Kx} {B : Bs} {H0 Hf H : Hp} {σ : L2.St} {ρ : En} {j : Nat} {s : SV} {p : Addr} (I : EnvOk K B H0 Hf H σ ρ) (e : ρ[j]? = some (some s)) (o : s.own = true) (es : σ[j]? = some (some (.ref p))) : H p ≠ none := by
  obtain ⟨v, h1, h2⟩ := I.sl j s e
  rw [es] at h1; cases h1
  cases s with
  | d x => cases o
  | ol xs => obtain ⟨q, vs, e, h, _⟩ := h2; cases e; rw [h]; exact fun z => nomatch z
  | od xs => obtain ⟨q, vs, e, h, _⟩ := h2; cases e; rw [h]; exact fun z => nomatch z
  | pin xs => cases o
  | exn n as => cases o
  | pd kvs => cases o
  | kd xs => obtain ⟨q, ep, vs, e, h, _⟩ := h2; cases e; rw [h]; exact fun z => nomatch z
  | oi C xs => obtain ⟨q, ep, vs, e, h, _⟩ := h2; cases e; rw [h]; exact fun z => nomatch z
  | sk xs => cases o
  | sd xs => cases o
  | so C xs => cases o
  | rw _ _ _ _ => cases o
theorem EnvOk.pin_ne {K : Kx} {B : Bs} {H0 Hf H : Hp} {σ : L2.St} {ρ : En} {j : Nat} {ys : List D} {q p : Addr} (I : EnvOk K B H0 Hf H σ ρ) (e : ρ[j]? = some (some (.pin ys))) (es : σ[j]? = some (some (.ref q))) (hp : H0 p = none) : q ≠ p := by
  obtain ⟨q', o, _, h2, h3, _⟩ := I.pin j ys e
  rw [es] at h2; cases h2
  rintro rfl
  rw [hp] at h3; cases h3
theorem EnvOk.set_fresh {K : Kx} {B : Bs} {H0 Hf H Hf' H' : Hp} {σ : L2.St} {ρ : En} {i : Nat} {v : V} {r : SV} (I : EnvOk K B H0 Hf H σ ρ) (np : r.npin = true) (x : Ext Hf H Hf' H') (q : RepR K Hf' H' v r) (fr : r.own = true → ∀ p, v = .ref p → H p = none) :
    EnvOk K B H0 Hf' H' (σ.set i (some v)) (ρ.set i (some r)) :=
  (I.grow x).set np q fun o p e => ⟨I.ext.h.free (fr o p e), fun j s ej oj es => absurd (fr o p e) (I.own_at ej oj es)⟩
theorem EnvOk.drop {K : Kx} {B : Bs} {H0 Hf H : Hp} {σ : L2.St} {ρ : En} (i : Nat) (I : EnvOk K B H0 Hf H σ ρ) : EnvOk K B H0 Hf H σ (ρ.set i none) := by
  have back : ∀ {j : Nat} {s : SV}, (ρ.set i none)[j]? = some (some s) → ρ[j]? = some (some s) := fun {j s} e => by
    rcases set_get e with ⟨_, e, _⟩ | ⟨_, e⟩
    · cases e
    · exact e
  exact ⟨I.ext, by rw [List.length_set, I.len], fun j s e => I.sl j s (back e), fun j s p e => I.new j s p (back e), fun j k sj sk p ej oj ek => I.sep j k sj sk p (back ej) oj (back ek), fun j xs e => I.pin j xs (back e)⟩

/-! ### blocks -/
def seqS (f g : En → R Fl) : En → R Fl := fun ρ => f ρ >>= fun fl => match fl with
  | .nx ρ' => g ρ'
  | z => .ok z
def skip : En → R Fl := fun ρ => .ok (.nx ρ)
theorem sem_skip : SemS c tNext skip := fun B H0 Hf H σ ρ Dn I o => (show GS c B H0 Dn (.nx ρ) from o) _ _ _ I
theorem sem_seq {t u : TS} {f g : En → R Fl} (h1 : SemS c t f) (h2 : SemS c u g) : SemS c (tSeq t u) (seqS f g) := by
  intro B H0 Hf H σ ρ Dn I o
  refine h1 B H0 Hf H σ ρ _ I (Out.bind o fun fl efl o1 => ?_)
  cases fl with
  | nx ρ' => exact fun Hf1 H1 σ1 I1 => h2 B H0 Hf1 H1 σ1 ρ' Dn I1 o1
  | rt r => exact o1
  | bk ρ' => exact o1
  | ct ρ' => exact o1
def ifS (t : En → R Bool) (f g : En → R Fl) : En → R Fl := fun ρ => t ρ >>= fun b => if b = true then f ρ else g ρ
theorem sem_if {t : TT} {u v : TS} {ft : En → R Bool} {f g : En → R Fl} (h : SemT c t ft) (h1 : SemS c u f) (h2 : SemS c v g) : SemS c (tIfS t u v) (ifS ft f g) := by
  intro B H0 Hf H σ ρ Dn I o
  refine h B H0 Hf H σ ρ _ I ((Out.bind o fun a ea o1 => ?_ : Out c B H0 (ft ρ) (GT Hf H fun b H1 => if b = true then u Dn σ H1 else v Dn σ H1)).here I.ext)
  intro Hf1 H1 x1
  cases a with
  | true => exact iteT (h1 B H0 Hf1 H1 σ ρ Dn (I.grow x1) o1)
  | false => exact iteF (h2 B H0 Hf1 H1 σ ρ Dn (I.grow x1) o1)
def retS (f : En → R SV) : En → R Fl := fun ρ => f ρ >>= fun r => .ok (.rt r)
theorem sem_ret {t : TE} {f : En → R SV} (h : SemE c true t f) : SemS c (tRet t) (retS f) := by
  intro B H0 Hf H σ ρ Dn I o
  refine h B H0 Hf H σ ρ _ I ((Out.bind o fun a ea o1 => ?_ : Out c B H0 (f ρ) (GE c true Hf H Dn.rt)).here I.ext)
  intro v Hf1 H1 x1 q1 fr
  exact (show GS c B H0 Dn (.rt a) from o1) v Hf1 H1 (I.ext.trans x1) q1 fun ho p e => I.ext.h.free (fr rfl ho p e)
/-- return x, x a slot (its list goes with it) -/
def retV (i : Nat) : En → R Fl := fun ρ => peek i ρ >>= fun r => .ok (.rt r)
theorem sem_retV {i : Nat} : SemS c (tRet (tVar i)) (retV i) := by
  intro B H0 Hf H σ ρ Dn I o
  unfold retV peek at o
  split at o
  · rename_i r e
    obtain ⟨v, h1, h2⟩ := I.sl i _ e
    refine ⟨v, h1, (show GS c B H0 Dn (.rt r) from o) v Hf H I.ext h2 fun ho p ev => ?_⟩
    subst ev
    exact I.new i r p e ho h1
  · exact o.elim
def retN : En → R Fl := fun ρ => .ok (.rt (.d .none))
theorem sem_retN : SemS c tRetN retN := fun B H0 Hf H σ ρ Dn I o => (show GS c B H0 Dn (.rt (.d .none)) from o) .non Hf H I.ext .non fun z => nomatch z
def brkS : En → R Fl := fun ρ => .ok (.bk ρ)
def cntS : En → R Fl := fun ρ => .ok (.ct ρ)
theorem sem_brk : SemS c tBreak brkS := fun B H0 Hf H σ ρ Dn I o => (show GS c B H0 Dn (.bk ρ) from o) _ _ _ I
theorem sem_cnt : SemS c tCont cntS := fun B H0 Hf H σ ρ Dn I o => (show GS c B H0 Dn (.ct ρ) from o) _ _ _ I
def exprS (f : En → R SV) : En → R Fl := fun ρ => f ρ >>= fun _ => .ok (.nx ρ)
theorem sem_expr {b : Bool} {t : TE} {f : En → R SV} (h : SemE c b t f) : SemS c (tDrop t) (exprS f) := by
  intro B H0 Hf H σ ρ Dn I o
  refine h B H0 Hf H σ ρ _ I ((Out.bind o fun a ea o1 => ?_ : Out c B H0 (f ρ) (GE c b Hf H fun _ H1 => Dn.nx σ H1)).here I.ext)
  intro v Hf1 H1 x1 q1 fr
  exact (show GS c B H0 Dn (.nx ρ) from o1) Hf1 H1 σ (I.grow x1)
/-- x = e -/
def asgS (i : Nat) (f : En → R SV) : En → R Fl := fun ρ => f ρ >>= fun r => if r.npin = true then .ok (.nx (ρ.set i (some r))) else .bad
theorem sem_set {i : Nat} {t : TE} {f : En → R SV} (h : SemE c true t f) : SemS c (tAsg t (gName i)) (asgS i f) := by
  intro B H0 Hf H σ ρ Dn I o
  refine h B H0 Hf H σ ρ _ I ((Out.bind o fun a ea o1 => ?_ : Out c B H0 (f ρ) (GE c true Hf H fun x H1 => gName i x σ H1 Dn.nx)).here I.ext)
  intro v Hf1 H1 x1 q1 fr
  cases np : a.npin with
  | true =>
    rw [np, if_pos rfl] at o1
    exact (show GS c B H0 Dn (.nx (ρ.set i (some a))) from o1) Hf1 H1 _ (I.set_fresh np x1 q1 (fr rfl))
  | false =>
    rw [np, if_neg Bool.false_ne_true] at o1
    exact o1.elim
/-! ### targets -/
def SemG (c : Ct) (is : List Nat) (g : TG) (k : D → En → R En) : Prop := ∀ B H0 Hf H σ ρ v d Q, EnvOk c.K B H0 Hf H σ ρ → Dp c.K Hf v d →
  (∃ ρ', k d ρ = .ok ρ' ∧ ∀ σ', σ'.length = σ.length → (∀ j, j ∉ is → σ'[j]? = σ[j]?) → EnvOk c.K B H0 Hf H σ' ρ' → Q σ' H) → g v σ H Q
def SemGs (c : Ct) (is : List Nat) (g : TGs) (k : List D → En → R En) : Prop := ∀ B H0 Hf H σ ρ vs ds Q, EnvOk c.K B H0 Hf H σ ρ → DpAll c.K Hf vs ds →
  (∃ ρ', k ds ρ = .ok ρ' ∧ ∀ σ', σ'.length = σ.length → (∀ j, j ∉ is → σ'[j]? = σ[j]?) → EnvOk c.K B H0 Hf H σ' ρ' → Q σ' H) → g vs σ H Q
def setD (i : Nat) : D → En → R En := fun d ρ => .ok (ρ.set i (some (.d d)))
theorem sem_gName {i : Nat} : SemG c [i] (gName i) (setD i) := by
  intro B H0 Hf H σ ρ v d Q I q ⟨ρ', e, h⟩
  cases e
  exact h _ (List.length_set ..) (fun j hj => List.getElem?_set_ne (by simpa using Ne.symm (by simpa using hj))) (I.set rfl q fun z => nomatch z)
def gsN : List D → En → R En
  | [], ρ => .ok ρ
  | _, _ => .bad
def gsC (k : D → En → R En) (ks : List D → En → R En) : List D → En → R En
  | d :: ds, ρ => k d ρ >>= ks ds
  | [], _ => .bad
theorem sem_gsN : SemGs c [] gNil gsN := by
  intro B H0 Hf H σ ρ vs ds Q I q ⟨ρ', e, h⟩
  cases q with
  | nil => cases e; exact ⟨rfl, h σ rfl (fun _ _ => rfl) I⟩
  | cons _ _ => cases e
theorem sem_gsC {is js : List Nat} {t : TG} {u : TGs} {k : D → En → R En} {ks : List D → En → R En} (h1 : SemG c is t k) (h2 : SemGs c js u ks) : SemGs c (is ++ js) (gCons t u) (gsC k ks) := by
  intro B H0 Hf H σ ρ vs ds Q I q ⟨ρ', e, h⟩
  cases q with
  | nil => cases e
  | cons a b =>
    unfold gsC at e
    dsimp only at e
    rename_i v vs d ds
    cases e1 : k d ρ with
    | bad => rw [e1] at e; cases e
    | ex n as => rw [e1] at e; cases e
    | ok ρ1 =>
      rw [e1, ok_bind] at e
      refine ⟨_, _, rfl, h1 B H0 Hf H σ ρ _ _ _ I a ⟨ρ1, e1, fun σ1 l1 n1 I1 => ?_⟩⟩
      refine h2 B H0 Hf H σ1 ρ1 _ _ _ I1 b ⟨ρ', e, fun σ2 l2 n2 I2 => h σ2 (l2.trans l1) (fun j hj => ?_) I2⟩
      have hj' : ¬ (j ∈ is ∨ j ∈ js) := fun z => hj (List.mem_append.mpr z)
      rw [n2 j fun z => hj' (.inr z), n1 j fun z => hj' (.inl z)]
/-- (a, b, ..) = a tuple or a list of that length -/
def gSq (K : PySem.W.Frag) (n : Nat) (t : TGs) : TG := fun v σ H Q => gTup K n t v σ H Q ∨ gUnl K n t v σ H Q
theorem pg_sq {X : Cx} {pos : Pos} {es : List Expr} {k : Nat} {t : TGs} {n : Nat} (hc : X.calm = true) (h : PGs X es t)
    (hn : (assignEach es X.env).length = n := by rfl) (hst : (assignEach es X.env).findIdx? (·.1) = none := by rfl) : PG X (.Tuple es k pos) (gSq X.K n t) := by
  refine ⟨fun pins s σ H v u Q I r hw => ?_⟩
  rcases hw with hw | hw
  · exact (pg_tup hc h hn hst).run pins s σ H v u Q I r hw
  · exact (pg_unl hc h hn hst).run pins s σ H v u Q I r hw
def tupG (n : Nat) (ks : List D → En → R En) : D → En → R En
  | .tuple ds, ρ => if ds.length = n then ks ds ρ else .bad
  | .list ds, ρ => if ds.length = n then ks ds ρ else .bad
  | _, _ => .bad
theorem sem_gTup {is : List Nat} {n : Nat} {t : TGs} {ks : List D → En → R En} (h : SemGs c is t ks) : SemG c is (gSq c.K n t) (tupG n ks) := by
  intro B H0 Hf H σ ρ v d Q I q ⟨ρ', e, h'⟩
  unfold tupG at e
  split at e
  · split at e
    · rename_i hl
      cases q with
      | tup h1 h2 => exact .inl ⟨_, _, rfl, sqT_mono I.i h1, by rw [dpAll_len h2]; exact hl, h B H0 Hf H σ ρ _ _ _ I h2 ⟨ρ', e, h'⟩⟩
    · cases e
  · split at e
    · rename_i hl
      obtain ⟨p, vs, rfl, h1, h2⟩ := rep_list (r := .d (.list _)) I.i q (.inl rfl)
      exact .inr ⟨_, _, rfl, h1, by rw [dpAll_len h2]; exact hl, h B H0 Hf H σ ρ _ _ _ I h2 ⟨ρ', e, h'⟩⟩
    · cases e
  · cases e
def asgG (k : D → En → R En) (f : En → R SV) : En → R Fl := fun ρ => f ρ >>= fun r => datS r >>= fun d => match k d ρ with
  | .ok ρ' => .ok (.nx ρ')
  | _ => .bad
theorem sem_asgG {is : List Nat} {t : TE} {g : TG} {k : D → En → R En} {f : En → R SV} (h : SemE c true t f) (hg : SemG c is g k) : SemS c (tAsg t g) (asgG k f) := by
  intro B H0 Hf H σ ρ Dn I o
  refine h B H0 Hf H σ ρ _ I ((Out.bind o fun a ea o1 => ?_ : Out c B H0 (f ρ) (GE c true Hf H fun x H1 => g x σ H1 Dn.nx)).here I.ext)
  intro v Hf1 H1 x1 q1 fr
  obtain ⟨d, e, o2⟩ := out_dat o1
  obtain ⟨Hf2, x2, q2⟩ := froze x1 q1 (fr rfl) e
  cases ek : k d ρ with
  | bad => simp only [ek] at o2; exact o2.elim
  | ex n as => simp only [ek] at o2; exact o2.elim
  | ok ρ' =>
    simp only [ek] at o2
    exact hg B H0 Hf2 H1 σ ρ v d _ (I.grow x2) q2 ⟨ρ', ek, fun σ' _ _ I' => (show GS c B H0 Dn (.nx ρ') from o2) _ _ _ I'⟩

/-! ### ghost steps -/
/-- a list of this frame is handed on for good -/
def frzE (i : Nat) (ρ : En) : En := match ρ[i]? with
  | some (some (.ol xs)) => ρ.set i (some (.d (.list xs)))
  | some (some (.kd xs)) => ρ.set i (some (.sk xs))
  | some (some (.od xs)) => ρ.set i (some (.sd xs))
  | some (some (.oi C xs)) => ρ.set i (some (.so C xs))
  | _ => ρ
/-- a slot's own thing becomes shared -/
theorem EnvOk.frzO {K : Kx} {B : Bs} {H0 Hf H : Hp} {σ : L2.St} {ρ : En} {i : Nat} {s s' : SV} {p : Addr} {o : HO} (I : EnvOk K B H0 Hf H σ ρ) (e : ρ[i]? = some (some s)) (ho : s.own = true) (h1 : σ[i]? = some (some (.ref p)))
    (h2 : H p = some o) (h3 : Hf p = none) (q : RepR K (upd Hf p o) H (.ref p) s') (hs : s'.own = false) (hp : ∀ ys, s' ≠ .pin ys) : ∃ Hf', EnvOk K B H0 Hf' H σ (ρ.set i (some s')) := by
  have hn := I.new i _ p e ho h1
  have g := upd_grow (o := o) h3
  have i' : Same (upd Hf p o) H := fun b o' eb => by
    by_cases hb : b = p
    · subst hb; rw [upd_same] at eb; cases eb; exact h2
    · rw [upd_ne hb] at eb; exact I.i _ _ eb
  refine ⟨upd Hf p o, ⟨I.ext.f.trans g, I.ext.h, i', fun b eb => ?_⟩, by rw [List.length_set, I.len], fun j s ej => ?_, fun j s q' ej oj es => ?_, fun j k sj sk q' ej oj ek ok e1 e2 => ?_, fun j ys ej => ?_⟩
  · by_cases hb : b = p
    · subst hb; exact .inr hn
    · rw [upd_ne hb] at eb; exact I.ext.n b eb
  · rcases set_get ej with ⟨rfl, ej, _⟩ | ⟨hj, ej⟩
    · cases ej
      exact ⟨_, h1, q⟩
    · obtain ⟨v, w1, w2⟩ := I.sl j s ej
      refine ⟨v, w1, ?_⟩
      cases s with
      | d x => exact dp_mono g w2
      | ol ys =>
        obtain ⟨q, us, rfl, u1, u2, u3⟩ := w2
        have hq : q ≠ p := fun z => hj (I.sep j i _ _ p ej rfl e ho (z ▸ w1) h1)
        exact ⟨q, us, rfl, u1, by rw [upd_ne hq]; exact u2, dpAll_mono g u3⟩
      | od ys =>
        obtain ⟨q, us, rfl, u1, u2, u3⟩ := w2
        have hq : q ≠ p := fun z => hj (I.sep j i _ _ p ej rfl e ho (z ▸ w1) h1)
        exact ⟨q, us, rfl, u1, by rw [upd_ne hq]; exact u2, Paired.mapP u3 fun _ _ q => ⟨q.1, dp_mono g q.2⟩⟩
      | pin ys =>
        obtain ⟨q, us, rfl, u1, u2, u3⟩ := w2
        have hq : q ≠ p := I.pin_ne ej w1 hn
        exact ⟨q, us, rfl, u1, by rw [upd_ne hq]; exact u2, dpAll_mono g u3⟩
      | exn n as => exact ⟨w2.1, w2.2.1, w2.2.2.thaw g⟩
      | pd ys =>
        obtain ⟨q, us, o', rfl, u1, u3⟩ := w2
        have hq : q ≠ p := fun z => by rw [z, h3] at u1; cases u1
        exact ⟨q, us, o', rfl, by rw [upd_ne hq]; exact u1, Paired.mapP u3 fun _ _ q => ⟨q.1, dp_mono g q.2⟩⟩
      | kd ys =>
        obtain ⟨q, ep, us, rfl, u1, u2, u3⟩ := w2
        have hq : q ≠ p := fun z => hj (I.sep j i _ _ p ej rfl e ho (z ▸ w1) h1)
        exact ⟨q, ep, us, rfl, u1, by rw [upd_ne hq]; exact u2, kdr_mono g u3⟩
      | sk ys =>
        obtain ⟨q, ep, us, rfl, u1, u3⟩ := w2
        have hq : q ≠ p := fun z => by rw [z, h3] at u1; cases u1
        exact ⟨q, ep, us, rfl, by rw [upd_ne hq]; exact u1, kdr_mono g u3⟩
      | sd ys =>
        obtain ⟨q, us, rfl, u1, u3⟩ := w2
        have hq : q ≠ p := fun z => by rw [z, h3] at u1; cases u1
        exact ⟨q, us, rfl, by rw [upd_ne hq]; exact u1, Paired.mapP u3 fun _ _ q => ⟨q.1, dp_mono g q.2⟩⟩
      | so C ys =>
        obtain ⟨q, dx, us, rfl, u1, u3⟩ := w2
        have hq : q ≠ p := fun z => by rw [z, h3] at u1; cases u1
        exact ⟨q, dx, us, rfl, by rw [upd_ne hq]; exact u1, fsr_mono g u3⟩
      | rw _ _ _ _ => exact RwR.mono g w2
      | oi C ys =>
        obtain ⟨q, dx, us, rfl, u1, u2, u3, u4⟩ := w2
        have hq : q ≠ p := fun z => hj (I.sep j i _ _ p ej rfl e ho (z ▸ w1) h1)
        exact ⟨q, dx, us, rfl, u1, by rw [upd_ne hq]; exact u2, fsr_mono g u3, u4⟩
  · rcases set_get ej with ⟨_, ej, _⟩ | ⟨_, ej⟩
    · cases ej; rw [hs] at oj; cases oj
    · exact I.new j s q' ej oj es
  · rcases set_get ej with ⟨_, ej, _⟩ | ⟨_, ej⟩
    · cases ej; rw [hs] at oj; cases oj
    · rcases set_get ek with ⟨_, ek, _⟩ | ⟨_, ek⟩
      · cases ek; rw [hs] at ok; cases ok
      · exact I.sep j k sj sk q' ej oj ek ok e1 e2
  · rcases set_get ej with ⟨_, ej, _⟩ | ⟨_, ej⟩
    · cases ej; exact (hp ys rfl).elim
    · exact I.pin j ys ej
theorem EnvOk.frz {K : Kx} {B : Bs} {H0 Hf H : Hp} {σ : L2.St} {ρ : En} (i : Nat) (I : EnvOk K B H0 Hf H σ ρ) : ∃ Hf', EnvOk K B H0 Hf' H σ (frzE i ρ) := by
  unfold frzE
  split
  · rename_i xs e
    obtain ⟨v, h1, p, vs, rfl, h2, h3, h4⟩ := I.sl i _ e
    exact I.frzO e rfl h1 h2 h3 (show Dp K _ _ _ from .lst (.inl (.inl upd_same)) (dpAll_mono (upd_grow h3) h4)) rfl fun _ z => nomatch z
  · rename_i xs e
    obtain ⟨v, h1, p, ep, vs, rfl, h2, h3, h4⟩ := I.sl i _ e
    exact I.frzO e rfl h1 h2 h3 ⟨p, ep, vs, rfl, upd_same, kdr_mono (upd_grow h3) h4⟩ rfl fun _ z => nomatch z
  · rename_i xs e
    obtain ⟨v, h1, p, vs, rfl, h2, h3, h4⟩ := I.sl i _ e
    exact I.frzO e rfl h1 h2 h3 ⟨p, vs, rfl, upd_same, Paired.mapP h4 fun _ _ q => ⟨q.1, dp_mono (upd_grow h3) q.2⟩⟩ rfl fun _ z => nomatch z
  · rename_i C xs e
    obtain ⟨v, h1, p, dx, vs, rfl, h2, h3, h4⟩ := I.sl i _ e
    exact I.frzO e rfl h1 h2 h3 ⟨p, dx, vs, rfl, upd_same, fsr_mono (upd_grow h3) h4.1⟩ rfl fun _ z => nomatch z
  · exact ⟨Hf, I⟩
def frzS (is : List Nat) (f : En → R Fl) : En → R Fl := fun ρ => f (is.foldl (fun ρ i => frzE i ρ) ρ)
theorem EnvOk.frzs {K : Kx} {B : Bs} {H0 H : Hp} {σ : L2.St} : ∀ (is : List Nat) {Hf : Hp} {ρ : En}, EnvOk K B H0 Hf H σ ρ → ∃ Hf', EnvOk K B H0 Hf' H σ (is.foldl (fun ρ i => frzE i ρ) ρ)
  | [], _, _, I => ⟨_, I⟩
  | i :: is, _, _, I => by
    obtain ⟨_, I'⟩ := I.frz i
    exact EnvOk.frzs is I'
theorem sem_frz {is : List Nat} {t : TS} {f : En → R Fl} (h : SemS c t f) : SemS c t (frzS is f) := by
  intro B H0 Hf H σ ρ Dn I o
  obtain ⟨Hf', I'⟩ := I.frzs is
  exact h B H0 Hf' H σ _ Dn I' o
def killE (is : List Nat) (ρ : En) : En := is.foldl (fun ρ i => ρ.set i none) ρ
theorem EnvOk.kill {K : Kx} {B : Bs} {H0 Hf H : Hp} {σ : L2.St} : ∀ (is : List Nat) {ρ : En}, EnvOk K B H0 Hf H σ ρ → EnvOk K B H0 Hf H σ (killE is ρ)
  | [], _, I => I
  | i :: is, _, I => EnvOk.kill is (I.drop i)
def kill (is : List Nat) (f : En → R Fl) : En → R Fl := fun ρ => f ρ >>= fun fl => match fl with
  | .nx ρ' => .ok (.nx (killE is ρ'))
  | .ct ρ' => .ok (.ct (killE is ρ'))
  | .bk ρ' => .ok (.bk (killE is ρ'))
  | z => .ok z
theorem sem_kill {is : List Nat} {t : TS} {f : En → R Fl} (h : SemS c t f) : SemS c t (kill is f) := by
  intro B H0 Hf H σ ρ Dn I o
  refine h B H0 Hf H σ ρ Dn I (Out.bind o fun fl efl o1 => ?_)
  cases fl with
  | nx ρ' => exact fun Hf1 H1 σ1 I1 => (show GS c B H0 Dn (.nx (killE is ρ')) from o1) _ _ _ (I1.kill is)
  | ct ρ' => exact fun Hf1 H1 σ1 I1 => (show GS c B H0 Dn (.ct (killE is ρ')) from o1) _ _ _ (I1.kill is)
  | bk ρ' => exact fun Hf1 H1 σ1 I1 => (show GS c B H0 Dn (.bk (killE is ρ')) from o1) _ _ _ (I1.kill is)
  | rt r => exact o1

/-! ### while -/
def whileF (n : Nat) (t : En → R Bool) (b : En → R Fl) (ρ : En) : R Fl := match n with
  | 0 => .bad
  | n + 1 => t ρ >>= fun k => if k = true then b ρ >>= fun fl => match fl with
      | .nx ρ' => whileF n t b ρ'
      | .ct ρ' => whileF n t b ρ'
      | .bk ρ' => .ok (.nx ρ')
      | .rt r => .ok (.rt r)
    else .ok (.nx ρ)
def whileS (μ : En → Nat) (t : En → R Bool) (b : En → R Fl) : En → R Fl := fun ρ => whileF (μ ρ) t b ρ
theorem sem_while {μ : En → Nat} {tc : TT} {tb : TS} {t : En → R Bool} {b : En → R Fl} (ht : SemT c tc t) (hb : SemS c tb b) : SemS c (tWhile tc tb) (whileS μ t b) := by
  intro B H0 Hf H σ ρ Dn I o
  refine ⟨fun m σ H => ∃ Hf ρ, EnvOk c.K B H0 Hf H σ ρ ∧ Out c B H0 (whileF m t b ρ) (GS c B H0 Dn), ⟨μ ρ, Hf, ρ, I, o⟩, ?_⟩
  rintro m σ H ⟨Hf, ρ, I, o⟩
  cases m with
  | zero => exact o.elim
  | succ m =>
    unfold whileF at o
    refine ht B H0 Hf H σ ρ _ I ((Out.bind o fun k ek o1 => ?_ : Out c B H0 (t ρ) (GT Hf H _)).here I.ext)
    intro Hf1 H1 x1
    cases k with
    | false => exact iteF ((show GS c B H0 Dn (.nx ρ) from o1) _ _ _ (I.grow x1))
    | true =>
      refine iteT ⟨fun σ' H' => ∃ Hf ρ, EnvOk c.K B H0 Hf H' σ' ρ ∧ Out c B H0 (whileF m t b ρ) (GS c B H0 Dn), fun σ' H' h => ⟨m, Nat.lt_succ_self _, h⟩, ?_⟩
      refine hb B H0 Hf1 H1 σ ρ _ (I.grow x1) (Out.bind o1 fun fl efl o2 => ?_)
      cases fl with
      | nx ρ' => exact fun Hf2 H2 σ2 I2 => ⟨Hf2, ρ', I2, o2⟩
      | ct ρ' => exact fun Hf2 H2 σ2 I2 => ⟨Hf2, ρ', I2, o2⟩
      | bk ρ' => exact fun Hf2 H2 σ2 I2 => (show GS c B H0 Dn (.nx ρ') from o2) _ _ _ I2
      | rt r => exact o2

/-! ### what is walked -/
def Walks (K : PySem.W.Frag) (J : It) (Hf : Hp) (xs : List D) : Prop := ∃ Y, Walk J xs.length (fun H => Same Hf H) Y ∧
  ∀ i H x H' Hfi, i < xs.length → Same Hf Hfi → Same Hfi H → Y i H x H' → ∃ d Hf', xs[i]? = some d ∧ Ext Hfi H Hf' H' ∧ Dp K Hf' x d
def SemI (c : Ct) (wi : TI) (f : En → R (List D)) : Prop := ∀ B H0 Hf H σ ρ Rr, EnvOk c.K B H0 Hf H σ ρ → Out c Hf H (f ρ) (fun xs => ∀ J Hf' H', Ext Hf H Hf' H' → Walks c.K J Hf' xs → Rr J H') → wi σ H Rr
theorem walks_at {K : PySem.W.Frag} {J : It} {Hf : Hp} {vs : List V} {xs : List D} (h : DpAll K Hf vs xs) (w : Walk J vs.length (fun H => Same Hf H) (YAt vs)) : Walks K J Hf xs := by
  refine ⟨YAt vs, by rw [← dpAll_len h]; exact w, fun i H x H' Hfi hi s1 s2 y => ?_⟩
  obtain ⟨rfl, e⟩ := y
  obtain ⟨d, e1, e2⟩ := dpAll_getV h e
  exact ⟨d, Hfi, e1, .refl s2, dp_mono s1 e2⟩
def seqD (f : En → R SV) : En → R (List D) := fun ρ => f ρ >>= fun a => match a with
  | .d (.list xs) => .ok xs
  | .ol xs => .ok xs
  | .d (.tuple xs) => .ok xs
  | .d (.str z) => .ok (z.cps.toList.map fun n => .str ⟨#[n]⟩)
  | _ => .bad
theorem PI.or {X : Cx} {tg l : Expr} {w1 w2 : TI} (h1 : PI X tg l w1) (h2 : PI X tg l w2) : PI X tg l (fun σ H Rr => w1 σ H Rr ∨ w2 σ H Rr) := ⟨fun pins s σ H Rr I q => q.elim (h1.run pins s σ H Rr I) (h2.run pins s σ H Rr I)⟩
abbrev iSeq (K : PySem.W.Frag) (te : TE) : TI := fun σ H Rr => iList K te σ H Rr ∨ (iTup K te σ H Rr ∨ iStr te σ H Rr)
theorem pi_seq {X : Cx} {tg l : Expr} {te : TE} (h : PE X l te) : PI X tg l (iSeq X.K te) := Pl.PI.or (pi_list h) (Pl.PI.or (pi_tup h) (pi_str h))
theorem sem_seqI {te : TE} {f : En → R SV} (h : SemE c true te f) : SemI c (iSeq c.K te) (seqD f) := by
  intro B H0 Hf H σ ρ Rr I o
  have lists : ∀ (r : SV) (xs : List D), (r = .d (.list xs) ∨ r = .ol xs) → f ρ = .ok r → (∀ J Hf' H', Ext Hf H Hf' H' → Walks c.K J Hf' xs → Rr J H') → iSeq c.K te σ H Rr := by
    intro r xs er ef k
    refine .inl (h B H0 Hf H σ ρ _ I ?_)
    rw [ef]
    intro v Hf1 H1 x1 q1 fr
    obtain ⟨Hf2, x2, q2⟩ := froze (d := .list xs) x1 q1 (fr rfl) (by rcases er with rfl | rfl <;> rfl)
    cases q2 with
    | lst s1 s2 => exact ⟨_, rfl, ⟨_, x2.i.seq s1⟩, k _ Hf2 H1 x2 (walks_at s2 (walk_list.mono (fun H e => e.seq s1) fun _ _ _ _ _ _ y => y))⟩
  unfold seqD at o
  cases ef : f ρ with
  | bad => rw [ef] at o; exact o.elim
  | ex n as =>
    rw [ef] at o
    refine .inl (h B H0 Hf H σ ρ _ I ?_)
    rw [ef]; exact o
  | ok r =>
    rw [ef, ok_bind] at o
    split at o
    · exact lists _ _ (.inl rfl) ef o
    · exact lists _ _ (.inr rfl) ef o
    · refine .inr (.inl (h B H0 Hf H σ ρ _ I ?_))
      rw [ef]
      intro v Hf1 H1 x1 q1 fr
      cases q1 with
      | tup s1 s2 => exact ⟨_, rfl, ⟨_, sqT_mono x1.i s1⟩, (show ∀ J Hf' H', Ext Hf H Hf' H' → Walks c.K J Hf' _ → Rr J H' from o) _ Hf1 H1 x1 (walks_at s2 (walk_tup.mono (fun H e => sqT_mono e s1) fun _ _ _ _ _ _ y => y))⟩
    · rename_i z
      refine .inr (.inr (h B H0 Hf H σ ρ _ I ?_))
      rw [ef]
      intro v Hf1 H1 x1 q1 fr
      cases q1 with
      | str _ =>
        refine ⟨_, rfl, (show ∀ J Hf' H', Ext Hf H Hf' H' → Walks c.K J Hf' _ → Rr J H' from o) _ Hf1 H1 x1 ⟨fun i H v H' => H' = H ∧ ∃ c, z.cps[i]? = some c ∧ v = .str ⟨#[c]⟩, ?_, fun i H2 x H' Hfi hi s1 s2 y => ?_⟩⟩
        · have w := @walk_str z
          rw [List.length_map, Array.length_toList]
          exact w.mono (Y' := fun i H v H' => H' = H ∧ ∃ c, z.cps[i]? = some c ∧ v = .str ⟨#[c]⟩) (fun _ _ => trivial) fun _ _ _ _ _ _ y => y
        · obtain ⟨rfl, n, e1, rfl⟩ := y
          exact ⟨.str ⟨#[n]⟩, Hfi, by rw [List.getElem?_map, Array.getElem?_toList, e1] <;> rfl, .refl s2, .str _⟩
    · exact o.elim
def rng (lo hi : Int) : List D := (List.range (hi - lo).toNat).map fun k => .int (lo + (k : Nat))
def okR (j : Int) : Bool := Nat.blt j.natAbs 4611686018427387904
theorem okR_of {j : Int} (h0 : -1000000000000 ≤ j) (h1 : j ≤ 1000000000000) : okR j = true := by
  unfold okR Nat.blt
  rw [Nat.ble_eq]; omega
theorem okR_ok {j : Int} (h : okR j = true) : -(2 ^ 62) ≤ j ∧ j < 2 ^ 62 := by
  unfold okR Nat.blt at h
  rw [Nat.ble_eq] at h
  omega
def rngD1 (f : En → R (List SV)) : En → R (List D) := fun ρ => f ρ >>= fun a => match a with
  | [.d (.int j)] => if okR j = true then .ok (rng 0 j) else .bad
  | _ => .bad
def rngD2 (f : En → R (List SV)) : En → R (List D) := fun ρ => f ρ >>= fun a => match a with
  | [.d (.int i), .d (.int j)] => if okR i = true ∧ okR j = true then .ok (rng i j) else .bad
  | _ => .bad
theorem walks_rng {K : PySem.W.Frag} {Hf : Hp} {lo hi : Int} : Walks K (Itr lo (hi - lo).toNat) Hf (rng lo hi) := by
  refine ⟨YFn fun i => .int (lo + i), ?_, fun i H x H' Hfi hl s1 s2 y => ?_⟩
  · have w := @walk_range lo (hi - lo).toNat
    unfold rng
    rw [List.length_map, List.length_range]
    exact w.mono (fun _ _ => trivial) fun _ _ _ _ _ _ y => y
  · obtain ⟨rfl, rfl⟩ := y
    unfold rng at hl ⊢
    rw [List.length_map] at hl
    refine ⟨.int (lo + (i : Nat)), Hfi, ?_, .refl s2, .int _⟩
    rw [List.getElem?_map, List.getElem?_range (by simpa using hl)] <;> rfl
theorem sem_rng1 {t : TA} {f : En → R (List SV)} (h : SemB c t f) : SemI c (iRng1 t) (rngD1 f) := by
  intro B H0 Hf H σ ρ Rr I o
  refine h B H0 Hf H σ ρ _ I (Out.bind o fun rs ers o1 => fun vs Hf1 H1 x1 q1 => ?_)
  split at o1
  · rename_i j
    split at o1
    · rename_i hj
      cases q1 with
      | cons a b =>
        cases b; cases a
        refine ⟨_, rfl, (okR_ok hj).1, (okR_ok hj).2, (show ∀ J Hf' H', Ext Hf H Hf' H' → Walks c.K J Hf' _ → Rr J H' from o1) _ Hf1 H1 x1 ?_⟩
        have w := @walks_rng c.K Hf1 0 j
        rw [show (j - 0).toNat = j.toNat by simp] at w
        exact w
    · exact o1.elim
  · exact o1.elim
theorem sem_rng2 {t : TA} {f : En → R (List SV)} (h : SemB c t f) : SemI c (iRng2 t) (rngD2 f) := by
  intro B H0 Hf H σ ρ Rr I o
  refine h B H0 Hf H σ ρ _ I (Out.bind o fun rs ers o1 => fun vs Hf1 H1 x1 q1 => ?_)
  split at o1
  · split at o1
    · rename_i hj
      cases q1 with
      | cons a b =>
        cases b with
        | cons b d =>
          cases d; cases a; cases b
          exact ⟨_, _, rfl, ⟨(okR_ok hj.1).1, (okR_ok hj.1).2, (okR_ok hj.2).1, (okR_ok hj.2).2⟩, (show ∀ J Hf' H', Ext Hf H Hf' H' → Walks c.K J Hf' _ → Rr J H' from o1) _ Hf1 H1 x1 walks_rng⟩
    · exact o1.elim
  · exact o1.elim

/-! ### for -/
def forF (k : D → En → R En) (b : En → R Fl) : List D → En → R Fl
  | [], ρ => .ok (.nx ρ)
  | x :: xs, ρ => match k x ρ with
    | .ok ρ1 => b ρ1 >>= fun fl => match fl with
      | .nx ρ2 => forF k b xs ρ2
      | .ct ρ2 => forF k b xs ρ2
      | .bk ρ2 => .ok (.nx ρ2)
      | .rt r => .ok (.rt r)
    | _ => .bad
def forS (fi : En → R (List D)) (k : D → En → R En) (b : En → R Fl) : En → R Fl := fun ρ => fi ρ >>= fun xs => forF k b xs ρ
theorem sem_for {is : List Nat} {wi : TI} {g : TG} {tb : TS} {fi : En → R (List D)} {k : D → En → R En} {b : En → R Fl} (hi : SemI c wi fi) (hg : SemG c is g k) (hb : SemS c tb b) : SemS c (tFor wi g tb) (forS fi k b) := by
  intro B H0 Hf H σ ρ Dn I o
  unfold forS at o
  refine hi B H0 Hf H σ ρ _ I ((Out.bind o fun xs exs o1 => ?_ : Out c B H0 (fi ρ) _).here I.ext)
  intro J Hf1 H1 x1 ⟨Y, w, hy⟩
  have I1 := I.grow x1
  refine for_it w (fun i σ H => i ≤ xs.length ∧ ∃ Hfi ρ, Same Hf1 Hfi ∧ EnvOk c.K B H0 Hfi H σ ρ ∧ Out c B H0 (forF k b (xs.drop i) ρ) (GS c B H0 Dn)) ⟨Nat.zero_le _, Hf1, ρ, .refl _, I1, o1⟩ (fun i σ H _ ⟨_, Hfi, ρ, s, I, _⟩ => s.trans I.i) ?_ ?_
  · rintro i x σ H H' hlt ⟨_, Hfi, ρ, s, I, o⟩ y
    obtain ⟨d, Hf', e1, x2, q⟩ := hy i H x H' Hfi hlt s I.i y
    have ed : xs.drop i = d :: xs.drop (i + 1) := by
      rw [List.drop_eq_getElem_cons hlt]
      rw [List.getElem?_eq_getElem hlt] at e1
      cases e1; rfl
    rw [ed] at o
    unfold forF at o
    have I2 := I.grow x2
    cases ek : k d ρ with
    | bad => simp only [ek] at o; exact o.elim
    | ex n as => simp only [ek] at o; exact o.elim
    | ok ρ1 =>
      simp only [ek] at o
      refine hg B H0 Hf' H' σ ρ x d _ I2 q ⟨ρ1, ek, fun σ1 _ _ I3 => ?_⟩
      have s' : Same Hf1 Hf' := s.trans x2.f
      have xb : Ext B.h H0 Hf' H' := I2.ext
      refine hb ⟨Hf', B.fx⟩ H0 Hf' H' σ1 ρ1 _ I3.rebase ?_
      cases eb : b ρ1 with
      | bad => rw [eb] at o; exact o.elim
      | ex n as => rw [eb] at o; exact ExW.rebase (show ExW c B.h H0 n as from o) xb
      | ok fl =>
        rw [eb] at o
        cases fl with
        | nx ρ2 => exact fun Hf2 H2 σ2 J2 => ⟨hlt, Hf2, ρ2, s'.trans J2.ext.f, J2.unbase xb, o⟩
        | ct ρ2 => exact fun Hf2 H2 σ2 J2 => ⟨hlt, Hf2, ρ2, s'.trans J2.ext.f, J2.unbase xb, o⟩
        | bk ρ2 => exact fun Hf2 H2 σ2 J2 => (show GS c B H0 Dn (.nx ρ2) from o) _ _ _ (J2.unbase xb)
        | rt r => exact GS.rebase (show GS c B H0 Dn (.rt r) from o) xb
  · rintro σ H ⟨_, Hfi, ρ, s, I, o⟩
    rw [List.drop_length] at o
    exact (show GS c B H0 Dn (.nx ρ) from o) _ _ _ I

/-! ### comprehensions -/
def wipeE (ρ : En) : List Nat → En
  | [] => ρ
  | v :: vs => (wipeE ρ vs).set v none
theorem wipeE_len (ρ : En) : ∀ vs : List Nat, (wipeE ρ vs).length = ρ.length
  | [] => rfl
  | v :: vs => by unfold wipeE; rw [List.length_set, wipeE_len ρ vs]
theorem wipeE_some {ρ : En} {i : Nat} {x : SV} : ∀ {vs : List Nat}, (wipeE ρ vs)[i]? = some (some x) → ρ[i]? = some (some x) ∧ i ∉ vs
  | [], h => ⟨h, by simp⟩
  | v :: vs, h => by
    unfold wipeE at h
    rcases set_get h with ⟨_, h, _⟩ | ⟨hi, h⟩
    · cases h
    · obtain ⟨h1, h2⟩ := wipeE_some h
      exact ⟨h1, by simp only [List.mem_cons, not_or]; exact ⟨hi, h2⟩⟩
theorem wipe_at (σ : L2.St) {i : Nat} : ∀ {vs : List Nat}, i ∉ vs → (wipe σ vs)[i]? = σ[i]?
  | [], _ => rfl
  | v :: vs, h => by
    simp only [List.mem_cons, not_or] at h
    unfold wipe
    rw [List.getElem?_set_ne (Ne.symm h.1), wipe_at σ h.2]
theorem wipe_in (σ : L2.St) {i : Nat} : ∀ {vs : List Nat}, i ∈ vs → (wipe σ vs)[i]? = if i < σ.length then some none else none
  | v :: vs, h => by
    unfold wipe
    by_cases e : v = i
    · subst e
      by_cases hl : v < σ.length
      · rw [List.getElem?_set_self (by rw [wipe_length]; exact hl), if_pos hl]
      · rw [if_neg hl, List.getElem?_eq_none (by rw [List.length_set, wipe_length]; omega)]
    · rw [List.getElem?_set_ne e]
      exact wipe_in σ ((List.mem_cons.mp h).elim (fun z => absurd z.symm e) id)
theorem EnvOk.wipe {K : Kx} {B : Bs} {H0 Hf H : Hp} {σ : L2.St} {ρ : En} (vs : List Nat) (I : EnvOk K B H0 Hf H σ ρ) : EnvOk K B H0 Hf H (L2.wipe σ vs) (wipeE ρ vs) :=
  ⟨I.ext, by rw [wipe_length, wipeE_len, I.len], fun j s e => by
      obtain ⟨h1, h2⟩ := wipeE_some e
      rw [wipe_at σ h2]; exact I.sl j s h1,
    fun j s p e o es => by
      obtain ⟨h1, h2⟩ := wipeE_some e
      rw [wipe_at σ h2] at es; exact I.new j s p h1 o es,
    fun j k sj sk p ej oj ek ok e1 e2 => by
      obtain ⟨h1, h2⟩ := wipeE_some ej
      obtain ⟨h3, h4⟩ := wipeE_some ek
      rw [wipe_at σ h2] at e1
      rw [wipe_at σ h4] at e2
      exact I.sep j k sj sk p h1 oj h3 ok e1 e2,
    fun j xs e => by
      obtain ⟨h1, h2⟩ := wipeE_some e
      rw [wipe_at σ h2]; exact I.pin j xs h1⟩
theorem wipe_back {σ σ2 : L2.St} {is vs : List Nat} (hl : σ2.length = (wipe σ vs).length) (h : ∀ j, j ∉ is → σ2[j]? = (wipe σ vs)[j]?) (hs : ∀ i ∈ is, i ∈ vs) : wipe σ2 vs = wipe σ vs := by
  apply List.ext_getElem?
  intro j
  by_cases hj : j ∈ vs
  · rw [wipe_in σ2 hj, wipe_in σ hj, hl, wipe_length]
  · rw [wipe_at σ2 hj, h j (fun z => hj (hs j z))]
def lcF (k : D → En → R En) (t : En → R Bool) (e : En → R SV) (ρ0 : En) : List D → R (List D)
  | [] => .ok []
  | x :: xs => match k x ρ0 with
    | .ok ρ1 => t ρ1 >>= fun b => if b = true then e ρ1 >>= fun r => datS r >>= fun y => lcF k t e ρ0 xs >>= fun ys => .ok (y :: ys) else lcF k t e ρ0 xs
    | _ => .bad
def lcE (fi : En → R (List D)) (k : D → En → R En) (t : En → R Bool) (e : En → R SV) (vs : List Nat) : En → R SV := fun ρ => fi ρ >>= fun xs => if xs.length < sizeLine then lcF k t e (wipeE ρ vs) xs >>= fun ys => .ok (.ol ys) else .bad
def yesT : En → R Bool := fun _ => .ok true
theorem sem_yes : SemT c tYes yesT := fun B H0 Hf H σ ρ Q I o => (show GT Hf H Q true from o) _ _ (.refl I.i)
theorem sem_lc {is : List Nat} {wi : TI} {g : TG} {tt : TT} {te : TE} {vs : List Nat} {fi : En → R (List D)} {k : D → En → R En} {t : En → R Bool} {e : En → R SV} (hi : SemI c wi fi) (hg : SemG c is g k) (ht : SemT c tt t) (he : SemE c true te e) (hs : ∀ i ∈ is, i ∈ vs) :
    SemE c true (tLc wi g tt te vs) (lcE fi k t e vs) := by
  intro B H0 Hf H σ ρ Q I o
  unfold lcE at o
  refine hi B H0 Hf H σ ρ _ I (Out.bind o fun xs exs o1 => ?_)
  intro J Hf1 H1 x1 ⟨Y, w, hy⟩ Dd hD
  split at o1
  rotate_left
  · exact o1.elim
  rename_i hlen
  have I1 := I.grow x1
  have W := I1.wipe vs
  have hDf : Hf1 Dd = none := I1.i.free hD
  have g0 : Same H1 (upd H1 Dd (.lst [])) := upd_grow hD
  refine lc_it w (fun i H2 => i ≤ xs.length ∧ ∃ Hfi acc ds, Ext Hf1 H1 Hfi H2 ∧ H2 Dd = some (.lst acc) ∧ Hfi Dd = none ∧ DpAll c.K Hfi acc ds ∧ ds.length ≤ i ∧
    Out c Hf H (lcF k t e (wipeE ρ vs) (xs.drop i)) (fun ys => GE c true Hf H Q (.ol (ds ++ ys)))) ⟨Nat.zero_le _, Hf1, [], [], .fresh x1.i hD, upd_same, hDf, .nil, Nat.zero_le _, ?_⟩ (fun i H2 _ ⟨_, Hfi, acc, ds, x2, _⟩ => x2.f.trans x2.i) ?_ ?_
  · rw [List.drop_zero]
    refine Out.bind o1 fun ys _ o2 => ?_
    rw [List.nil_append]; exact o2
  · rintro i x H2 H' hlt ⟨_, Hfi, acc, ds, x2, hacc, hfd, hds, hlen2, o2⟩ y
    obtain ⟨d, Hf', e1, x3, q⟩ := hy i H2 x H' Hfi hlt x2.f x2.i y
    have ed : xs.drop i = d :: xs.drop (i + 1) := by
      rw [List.drop_eq_getElem_cons hlt]
      rw [List.getElem?_eq_getElem hlt] at e1
      cases e1; rfl
    rw [ed] at o2
    unfold lcF at o2
    have x4 := x2.trans x3
    have X4 := x1.trans x4
    cases ek : k d (wipeE ρ vs) with
    | bad => simp only [ek] at o2; exact o2.elim
    | ex n as => simp only [ek] at o2; exact o2.elim
    | ok ρ1 =>
      simp only [ek] at o2
      refine hg B H0 Hf' H' (wipe σ vs) (wipeE ρ vs) x d _ (W.grow x4) q ⟨ρ1, ek, fun σ2 l2 n2 I2 => ⟨wipe_back l2 n2 hs, ?_⟩⟩
      refine ht B H0 Hf' H' σ2 ρ1 _ I2 (Out.bind (o2.grow X4 fun _ z => z) fun b eb o3 => ?_)
      intro Hf5 H5 x5
      have hacc' := x3.h _ _ hacc
      cases b with
      | false =>
        refine iteF ⟨hlt, Hf5, acc, ds, x4.trans x5, x5.h _ _ hacc', x5.still hacc' (x3.still hacc hfd), dpAll_mono (x3.f.trans x5.f) hds, by omega, ?_⟩
        have o4 : Out c Hf' H' (lcF k t e (wipeE ρ vs) (xs.drop (i + 1))) (fun ys => GE c true Hf H Q (.ol (ds ++ ys))) := o3
        cases el : lcF k t e (wipeE ρ vs) (xs.drop (i + 1)) with
        | ok ys => rw [el] at o4; exact o4
        | bad => rw [el] at o4; exact o4
        | ex n as => simp only [el, eb, ok_bind, Bool.false_eq_true, if_false] at o2; exact o2
      | true =>
        refine iteT (he B H0 Hf5 H5 σ2 ρ1 _ (I2.grow x5) (Out.bind (o3.grow x5 fun _ z => z) fun r er o4 => ?_))
        intro v Hf6 H6 x6 q6 fr
        obtain ⟨y', ey, o5⟩ := out_dat o4
        obtain ⟨Hf7, x7, q7⟩ := froze x6 q6 (fr rfl) ey
        have hacc5 := x5.h _ _ hacc'
        have hacc6 := x7.h _ _ hacc5
        have hfd7 : Hf7 Dd = none := x7.still hacc5 (x5.still hacc' (x3.still hacc hfd))
        have X7 := (x4.trans x5).trans x7
        refine ⟨acc, hacc6, ?_, hlt, Hf7, acc ++ [v], ds ++ [y'], ⟨X7.f, fun b o e => ?_, fun b o e => ?_, X7.n⟩, upd_same, hfd7, dpAll_append (dpAll_mono ((x3.f.trans x5.f).trans x7.f) hds) (.cons q7 .nil), ?_, ?_⟩
        · rw [dpAll_len hds]; omega
        · rw [upd_ne (ne_of_none e hD)]; exact X7.h _ _ e
        · rw [upd_ne (ne_of_none e hfd7)]; exact X7.i _ _ e
        · rw [List.length_append]; show ds.length + 1 ≤ i + 1; omega
        · simp only [eb, er, ey, ok_bind, if_true] at o2
          cases el : lcF k t e (wipeE ρ vs) (xs.drop (i + 1)) with
          | ok ys =>
            rw [el] at o2
            show GE c true Hf H Q (.ol (ds ++ [y'] ++ ys))
            rw [List.append_assoc]; exact o2
          | bad => rw [el] at o2; exact o2
          | ex n as => rw [el] at o2; exact o2
  · rintro H2 ⟨_, Hfi, acc, ds, x2, hacc, hfd, hds, _, o2⟩
    rw [List.drop_length] at o2
    have o3 : GE c true Hf H Q (.ol (ds ++ [])) := o2
    rw [List.append_nil] at o3
    exact o3 _ _ _ (x1.trans x2) ⟨Dd, acc, rfl, hacc, hfd, hds⟩ fun _ _ p e => by cases e; exact x1.h.free hD

/-! ### x.append(e) -/
def appS (i : Nat) (f : En → R SV) : En → R Fl := fun ρ => match ρ[i]? with
  | some (some (.ol xs)) => f ρ >>= fun r => datS r >>= fun d => if xs.length < sizeLine then .ok (.nx (ρ.set i (some (.ol (xs ++ [d]))))) else .bad
  | _ => .bad
theorem sem_app {i : Nat} {t : TE} {f : En → R SV} (h : SemE c true t f) : SemS c (tDrop (tBM c.K "list" rAppend (tVar i) (tCons t tNil))) (appS i f) := by
  intro B H0 Hf H σ ρ Dn I o
  unfold appS at o
  split at o
  rotate_left
  · exact o.elim
  rename_i xs e
  obtain ⟨v, h1, p, vs, rfl, h2, h3, h4⟩ := I.sl i _ e
  refine ⟨.ref p, h1, .inl ⟨rfl, vs, .inl (.inl h2)⟩, ?_⟩
  refine h B H0 Hf H σ ρ _ I ((Out.bind o fun a ea o1 => ?_ : Out c B H0 (f ρ) (GE c true Hf H _)).here I.ext)
  intro u Hf1 H1 x1 q1 fr
  obtain ⟨d, ed, o2⟩ := out_dat o1
  obtain ⟨Hf2, x2, q2⟩ := froze x1 q1 (fr rfl) ed
  split at o2
  rotate_left
  · exact o2.elim
  rename_i hlen
  have h2' := x2.h _ _ h2
  have h3' := x2.still h2 h3
  refine ⟨p, vs, u, rfl, rfl, h2', by rw [dpAll_len h4]; exact hlen, ?_⟩
  have I2 := I.grow x2
  have hn := I.new i _ p e rfl h1
  have hi : i < ρ.length := (List.getElem?_eq_some_iff.mp e).1
  refine (show GS c B H0 Dn (.nx (ρ.set i (some (.ol (xs ++ [d]))))) from o2) Hf2 _ σ ⟨⟨I2.ext.f, fun b o eb => ?_, fun b o eb => ?_, I2.ext.n⟩, by rw [List.length_set]; exact I2.len, fun j s ej => ?_, fun j s q ej oj es => ?_, fun j k sj sk q ej oj ek ok e1 e2 => ?_, fun j ys ej => ?_⟩
  · rw [upd_ne (ne_of_none eb hn)]; exact I2.ext.h _ _ eb
  · rw [upd_ne (ne_of_none eb h3')]; exact I2.i _ _ eb
  · rcases set_get ej with ⟨rfl, ej, _⟩ | ⟨hj, ej⟩
    · cases ej
      exact ⟨_, h1, p, _, rfl, upd_same, h3', dpAll_append (dpAll_mono x2.f h4) (.cons q2 .nil)⟩
    · obtain ⟨w, w1, w2⟩ := I2.sl j s ej
      refine ⟨w, w1, ?_⟩
      cases s with
      | d x => exact w2
      | ol ys =>
        obtain ⟨q, us, rfl, u1, u2⟩ := w2
        have hq : q ≠ p := fun z => hj (I2.sep j i _ _ p ej rfl e rfl (z ▸ w1) h1)
        exact ⟨q, us, rfl, by rw [upd_ne hq]; exact u1, u2⟩
      | od ys =>
        obtain ⟨q, us, rfl, u1, u2⟩ := w2
        have hq : q ≠ p := fun z => hj (I2.sep j i _ _ p ej rfl e rfl (z ▸ w1) h1)
        exact ⟨q, us, rfl, by rw [upd_ne hq]; exact u1, u2⟩
      | pin ys =>
        obtain ⟨q, us, rfl, u1, u2⟩ := w2
        have hq : q ≠ p := I2.pin_ne ej w1 hn
        exact ⟨q, us, rfl, by rw [upd_ne hq]; exact u1, u2⟩
      | exn n as => exact ⟨w2.1, w2.2.1, w2.2.2.upd h2'⟩
      | pd ys => exact w2
      | kd ys =>
        obtain ⟨q, ep, us, rfl, u1, u2⟩ := w2
        have hq : q ≠ p := fun z => hj (I2.sep j i _ _ p ej rfl e rfl (z ▸ w1) h1)
        exact ⟨q, ep, us, rfl, by rw [upd_ne hq]; exact u1, u2⟩
      | sk ys => exact w2
      | sd ys => exact w2
      | so C fs => exact w2
      | rw _ _ _ _ => exact w2
      | oi C fs =>
        obtain ⟨q, dx, us, rfl, u1, u2⟩ := w2
        have hq : q ≠ p := fun z => hj (I2.sep j i _ _ p ej rfl e rfl (z ▸ w1) h1)
        exact ⟨q, dx, us, rfl, by rw [upd_ne hq]; exact u1, u2⟩
  · rcases set_get ej with ⟨rfl, ej, _⟩ | ⟨_, ej⟩
    · rw [h1] at es; cases es; exact hn
    · exact I2.new j s q ej oj es
  · have old : ∀ {j : Nat} {s : SV}, (ρ.set i (some (.ol (xs ++ [d]))))[j]? = some (some s) → s.own = true → ∃ s', ρ[j]? = some (some s') ∧ s'.own = true := by
      intro j s ej oj
      rcases set_get ej with ⟨rfl, _, _⟩ | ⟨_, ej⟩
      · exact ⟨_, e, rfl⟩
      · exact ⟨s, ej, oj⟩
    obtain ⟨sj', a1, a2⟩ := old ej oj
    obtain ⟨sk', b1, b2⟩ := old ek ok
    exact I2.sep j k sj' sk' q a1 a2 b1 b2 e1 e2
  · rcases set_get ej with ⟨_, ej, _⟩ | ⟨_, ej⟩
    · cases ej
    · exact I2.pin j ys ej
end

/-! ### a def -/
def startE (N : Nat) (ds : List D) : En := (ds.map fun d => some (.d d)) ++ List.replicate (N - ds.length) none
def runB (n N : Nat) (f : En → R Fl) (ds : List D) : R SV := if ds.length = n then f (startE N ds) >>= fun fl => match fl with
  | .rt r => .ok r
  | .nx _ => .ok (.d .none)
  | _ => .bad else .bad
theorem start_ok {K : Kx} {Hf H : Hp} {N : List Str} {vs : List V} {ds : List D} (i : Same Hf H) (h : DpAll K Hf vs ds) : EnvOk K ⟨Hf, fun _ => .non⟩ H Hf H (L2.start N vs) (startE N.length ds) := by
  have hl := dpAll_len h
  have none_own : ∀ {j : Nat} {s : SV}, (startE N.length ds)[j]? = some (some s) → ∃ d, s = .d d ∧ ds[j]? = some d := by
    intro j s e
    unfold startE at e
    rcases Nat.lt_or_ge j ds.length with z | z
    · rw [List.getElem?_append_left (by simpa using z), List.getElem?_map, List.getElem?_eq_getElem z] at e
      cases e
      exact ⟨_, rfl, List.getElem?_eq_getElem z⟩
    · rw [List.getElem?_append_right (by simpa using z), List.getElem?_replicate] at e
      split at e <;> cases e
  refine ⟨.refl i, by unfold L2.start startE; simp [hl], fun j s e => ?_, fun j s p e o => ?_, fun j k sj sk p ej oj => ?_, fun j xs e => ?_⟩
  · obtain ⟨d, rfl, hd⟩ := none_own e
    obtain ⟨v, hv, q⟩ := dpAll_get h hd
    refine ⟨v, ?_, q⟩
    unfold L2.start
    have hj : j < vs.length := (List.getElem?_eq_some_iff.mp hv).1
    rw [List.getElem?_append_left (by simpa using hj), List.getElem?_map, hv] <;> rfl
  · obtain ⟨d, rfl, _⟩ := none_own e
    cases o
  · obtain ⟨d, rfl, _⟩ := none_own ej
    cases oj
  · obtain ⟨d, z, _⟩ := none_own e
    cases z
theorem body_ok {w : World} {K : PySem.W.Frag} {cm : Nat → Addr × List Str} {E : XK} {N ps : List Str} {t : TS} {f : En → R Fl} {vs : List V} {H : Hp} {Q : VK} (h : ∀ ex : Exi, SemS ⟨⟨K, ex, w⟩, cm, E⟩ t f) (hsp : spF w K cm ps.length (runB ps.length N.length f) vs H Q E) :
    t { nx := fun _ H' => Q .non H', rt := Q } (L2.start N vs) H := by
  obtain ⟨hl, ex, Hf, ds, i, q, o⟩ := hsp
  have I := start_ok (K := ⟨K, ex, w⟩) (N := N) i q
  unfold runB at o
  rw [if_pos (by rw [← dpAll_len q]; exact hl)] at o
  refine h ex ⟨Hf, fun _ => .non⟩ H Hf H _ _ _ I (Out.bind o fun fl efl o1 => ?_)
  cases fl with
  | nx ρ => exact fun Hf2 H2 σ2 I2 => (show GE ⟨⟨K, ex, w⟩, cm, E⟩ true Hf H Q (.d .none) from o1) .non Hf2 H2 I2.ext .non fun _ z => nomatch z
  | rt r => exact fun v Hf2 H2 x q fr => (show GE ⟨⟨K, ex, w⟩, cm, E⟩ true Hf H Q r from o1) v Hf2 H2 x q fun _ => fr
  | bk ρ => exact o1.elim
  | ct ρ => exact o1.elim
section
variable {P : Program} {w : World} {K : PySem.W.Frag} {mg : Str → Option Value} {base : Heap}
theorem mk_ok {x qual : Str} {st : Stmt} {f : Addr} {fd : FuncData} {N ps : List Str} {k : Nat} {cm : Nat → Addr × List Str} {b : En → R Fl} (F : Fun K x qual st f fd) (S : FnScope N ps (defScope st))
    (hb : ∀ (cdv : Value) (A : Around) (outer : List Env) (s : Shared) (H : Hp) (E : XK), Room k (A.deeper (envOfC qual (defScope st) s.heap.objs.size f cdv)) →
      ∃ t, PSs (cxOf CX0 P w K mg base N qual (defScope st) f cdv A outer s H E).nox (defBody st) t ∧ ∀ ex : Exi, SemS ⟨⟨K, ex, w⟩, cm, E⟩ t b) :
    FnOk P w K mg base CX0 (k + 1) f fd ps (spF w K cm ps.length (runB ps.length N.length b)) := by
  refine F.ok S (fun vs H Q E h => h.1) fun cdv A outer s H vs Q E hr h => ?_
  obtain ⟨t, h1, h2⟩ := hb cdv A outer s H E hr
  exact ⟨t, h1, body_ok (ps := ps) h2 h⟩
theorem passE {X : Cx} {E : XK} : Passes CX0 X E := fun _ _ _ _ _ _ _ h => h.elim
end
end Pl
namespace Pl
open PySem PySem.Spec PyProof.Rows L2
section
variable {X : Cx}
abbrev rLen (K : PySem.W.Frag) : List V → Hp → VK → Prop := fun xs H Q => ∃ x n, xs = [x] ∧ LenV K x H n ∧ Q (.int n) H
abbrev rInt : List V → Hp → VK → Prop := fun xs H Q => (∃ i, xs = [.int i] ∧ Q (.int i) H) ∨ ∃ k, xs = [.bl k] ∧ Q (.int (if k then 1 else 0)) H
abbrev rAbs : List V → Hp → VK → Prop := fun xs H Q => ∃ i, xs = [.int i] ∧ Q (.int (if i < 0 then -i else i)) H
abbrev rMax2 : List V → Hp → VK → Prop := fun xs H Q => ∃ i j, xs = [.int i, .int j] ∧ Q (.int (if j > i then j else i)) H
abbrev rMin2 : List V → Hp → VK → Prop := fun xs H Q => ∃ i j, xs = [.int i, .int j] ∧ Q (.int (if j < i then j else i)) H
abbrev rList (K : PySem.W.Frag) : List V → Hp → VK → Prop := fun xs H Q => ∃ p ys, xs = [.ref p] ∧ (SqL K H p ys ∨ SqT K H p ys) ∧ ∀ l, H l = none → Q (.ref l) (upd H l (.lst ys))
abbrev rTupl (K : PySem.W.Frag) : List V → Hp → VK → Prop := fun xs H Q => ∃ p ys, xs = [.ref p] ∧ ((SqL K H p ys ∧ ∀ l, H l = none → Q (.ref l) (upd H l (.tup ys))) ∨ (SqT K H p ys ∧ Q (.ref p) H))
abbrev rIsN : R2 := fun x y H Q => y = .non ∧ Q (.bl (decide (x = .non))) H
abbrev rNotN : R2 := fun x y H Q => y = .non ∧ Q (.bl (!decide (x = .non))) H
theorem cb_len : CallR X (.builtin "len") (rLen X.K) := call_len
theorem cb_int : CallR X (.type "int") rInt := call_int1
theorem cb_abs : CallR X (.builtin "abs") rAbs := call_abs
theorem cb_max2 (hc : X.calm = true) : CallR X (.builtin "max") rMax2 := call_max2 hc
theorem cb_min2 (hc : X.calm = true) : CallR X (.builtin "min") rMin2 := call_min2 hc
theorem cb_list : CallR X (.type "list") (rList X.K) := call_list_of
theorem cb_tup : CallR X (.type "tuple") (rTupl X.K) := call_tuple_of
end
theorem u65 {k : Nat} {A : Around} (r : Room k A) : A.units + 65 < cLine := by have := r.un; omega
/-- a def of the text, as it is called -/
structure Fn (K : PySem.W.Frag) (mg : Str → Option Value) (x : Str) (st : Stmt) (ps : List Str) (f : Addr) (fd : FuncData) : Prop where
  F : Fun K x x st f fd
  b : Binds K fd ps []
  m : mg x = some (.ref f)
def fuel : En → Nat := fun _ => 1000000
theorem law_sp {w : World} {K : PySem.W.Frag} {cm : Nat → Addr × List Str} {g : List D → R SV} {H : Hp} {a : Addr} {ns : List Int} {E : XK} (hS : SqL K H a (ns.map V.int)) (h : g [.list (ns.map PyData.int)] = .ok (.d (.bool true))) :
    spF w K cm 1 g [.ref a] H (fun v _ => v = .bl true) E := by
  refine ⟨rfl, ⟨0, 0, none⟩, H, [.list (ns.map PyData.int)], .refl _, .cons (.lst hS (dpAll_ints ns)) .nil, ?_⟩
  rw [h]
  intro v Hf' H' x q _
  cases q
  rfl
end Pl
namespace Pl
open PySem PySem.Spec PyProof.Rows L2

/-! ### sorted(list of data) -/
def allAlike (ds : List D) : Bool := ds.all fun d => ds.all fun e => PySem.W.alike d e
def isTup1 : D → Bool
  | .tuple _ => true
  | _ => false
def noTup : D → Bool
  | .none => false
  | .tuple _ => false
  | _ => true
def sortable (ds : List D) : Bool := ds.all isTup1 || ds.all noTup
def sortD (ds : List D) : List D := ds.mergeSort (PySem.W.dataLe false id)
def sortedS : List SV → R SV
  | [a] => (match datL a with
    | .ok ds => if allAlike ds = true ∧ sortable ds = true ∧ (ds.all fun d => decide (d.depth ≤ 60)) = true ∧ ds.length ≤ sizeLine then .ok (.ol (sortD ds)) else .bad
    | _ => .bad)
  | _ => .bad
theorem allAlike_of {ds : List D} (h : allAlike ds = true) : PySem.W.AllAlike ds := fun d hd d' hd' => by
  unfold allAlike at h
  exact List.all_eq_true.mp (List.all_eq_true.mp h d hd) d' hd'
/-- all are tuples (empty ones too), or none is a tuple or None -/
def Srt (ds : List D) : Prop := (∀ d ∈ ds, ∃ xs, d = .tuple xs) ∨ ∀ d ∈ ds, d ≠ .none ∧ ∀ xs, d ≠ .tuple xs
theorem sortable_of {ds : List D} (h : sortable ds = true) : Srt ds := by
  unfold sortable at h
  rcases Bool.or_eq_true_iff.mp h with h | h
  · refine .inl fun d hd => ?_
    have q := List.all_eq_true.mp h d hd
    unfold isTup1 at q
    split at q
    · exact ⟨_, rfl⟩
    · cases q
  · refine .inr fun d hd => ?_
    have q := List.all_eq_true.mp h d hd
    refine ⟨fun e => ?_, fun xs e => ?_⟩ <;> (subst e; cases q)
section
open PySem.W PySem.SeqAt
variable {prog : Program} {w : World} {A : Around} {E : Value → Shared → Prop} {s : Shared}
theorem callTupLt {Q : Value → Shared → Prop} {l b : Addr} {items items2 : Array Value} {e r : Nat → Bool} (hl : s.heap.IsTuple l items) (hb : s.heap.IsTuple b items2)
    (he : ∀ j (h1 : j < items.size) (h2 : j < items2.size), EqAt A.in1 s items[j] items2[j] (e j)) (hr : ∀ j (h1 : j < items.size) (h2 : j < items2.size), e j = false → RcLt A.in1 s items[j] items2[j] (r j))
    (h : Q (.bool (firstLt e r (decide (items.size < items2.size)) (List.range (min items.size items2.size)))) s) : wpAny (model prog w) A (call (.builtin "tuple.__lt__") [.ref l, .ref b]) Q E s := by
  obtain ⟨⟨cls, dd, data, sl⟩, ho, hc, n, hd⟩ := id hl
  obtain ⟨⟨cls2, dd2, data2, sl2⟩, ho2, hc2, n2, hd2⟩ := id hb
  simp only at hc hd hc2 hd2
  subst hc hd hc2 hd2
  exact call_meets PySem.F.slot_tuple_lt ⟨_, ho, rfl⟩ PySem.F.entry_tuple_lt (PySem.F.args_tuple_lt_2 _ _) (tuple_ltAt l b items items2 n n2 dd dd2 sl sl2 e r) ⟨ho, ho2, he, hr, h⟩
theorem oneLtTup {xs ys : List PyData} {a b : Value} {as bs : List Addr} {Q : Bool → Shared → Prop} (ra : Reads s.heap a (.tuple xs) as) (rb : Reads s.heap b (.tuple ys) bs) (h : alike (.tuple xs) (.tuple ys) = true)
    (hu : A.units + min (PyData.tuple xs).depth (PyData.tuple ys).depth < cLine) (hq : Q (dataLt (.tuple xs) (.tuple ys)) s) : wpAny (model prog w) A (oneLt' true a b) Q E s := by
  have hal : alikeAll xs ys = true := by simpa [alike] using h
  cases ra with
  | @tuple l o vs n _ as₁ h1 h2 h3 h4 =>
    cases rb with
    | @tuple l' o' vs' n' _ bs₁ k1 k2 k3 k4 =>
      have n1 : vs.size = xs.length := by simpa using ReadsAll.length _ _ _ h4
      have n2 : vs'.size = ys.length := by simpa using ReadsAll.length _ _ _ k4
      rw [dataLt_tuple, ← firstLt_toks xs ys hal, ← n1, ← n2] at hq
      rw [oneLt'_eq]
      simp only [if_true]
      refine wpAny_bind (wpAny_cRoomFor (room_here hu) ?_)
      refine wpAny_bind (wpAny_callSpecialIfBound?_slot (T := "tuple") ⟨_, h1, h2⟩ PySem.F.slot_tuple_lt (callTupLt (e := pairEq xs ys) (r := fun j => dataLt (xs.getD j .none) (ys.getD j .none)) ⟨_, h1, h2, _, h3⟩ ⟨_, k1, k2, _, k3⟩ (fun j j1 j2 => ?_) (fun j j1 j2 hj => ?_) ?_))
      · have := eqAt_alikeAll xs ys A.in1 s vs.toList vs'.toList _ _ h4 k4 hal (room_in hu) j (by simpa using j1) (by simpa using j2)
        simpa using this
      · have := rcLt_alikeAll xs ys A.in1 s vs.toList vs'.toList _ _ h4 k4 hal (room_in hu) j (by simpa using j1) (by simpa using j2) hj
        simpa using this
      · exact wpAny_truthy_bool hq
theorem firstsTup : ∀ {vs : List Value} {ds : List PyData}, EachIs (fun v d => ∃ as, Reads s.heap v d as) vs ds → (∀ d ∈ ds, ∃ xs, d = .tuple xs) →
    ∃ fs : List (Option Value), fs.length = vs.length ∧ ((∀ f ∈ fs, f.isSome = true) → ∀ d ∈ ds, ∃ x r, d = .tuple (x :: r)) ∧ ∀ (E : Value → Shared → Prop) (Q : List (Option Value) → Shared → Prop), Q fs s → wpAny (model prog w) A (vs.mapM firstOfTuple') Q E s
  | _, _, .nil, _ => ⟨[], rfl, fun _ d hd => (nomatch hd), fun E Q hq => by rw [List.mapM_nil]; exact wpAny_pure hq⟩
  | _, _, .cons (b := d) ⟨as, r⟩ t, ht => by
    obtain ⟨fs, h1, h2, h3⟩ := firstsTup t fun d hd => ht d (List.mem_cons_of_mem _ hd)
    obtain ⟨xs, rfl⟩ := ht d (List.mem_cons_self ..)
    cases r with
    | @tuple a o ws n _ _ ho hc hd hr =>
      refine ⟨ws[0]? :: fs, by rw [List.length_cons, List.length_cons, h1], fun hs d hd' => ?_, fun E Q hq => ?_⟩
      · rcases List.mem_cons.mp hd' with rfl | hd'
        · have q := hs _ (List.mem_cons_self ..)
          cases hx : xs with
          | nil =>
            subst hx
            generalize hw : ws.toList = w' at hr
            cases hr
            rw [← Array.getElem?_toList, hw] at q
            cases q
          | cons x r => exact ⟨x, r, rfl⟩
        · exact h2 (fun f hf => hs f (List.mem_cons_of_mem _ hf)) d hd'
      · rw [List.mapM_cons]
        refine wpAny_bind ?_
        rw [kas_first_eq]
        refine wpAny_bind (Looks.here (show Looks (model prog w) s.heap (typeOf (.ref a)) o.cls from (Looks.ld ho).andThen .now) ?_)
        rw [hc, if_neg (by first | decide | simp)]
        refine wpAny_bind (listItems_at ho hd (wpAny_pure ?_))
        exact wpAny_bind (h3 E (fun bs s' => wpAny (model prog w) A (pure (ws[0]? :: bs)) Q E s') (wpAny_pure hq))
theorem sortsTup {vs : List Value} {ds : List PyData} (e : EachIs (fun v d => ∃ as, Reads s.heap v d as) vs ds) (hal : AllAlike ds) (ht : ∀ d ∈ ds, ∃ xs, d = .tuple xs) (hu : ∀ d, d ∈ ds → A.units + d.depth < cLine) :
    SortsAt prog w A s (dataKind s.heap ds) vs := by
  by_cases hne : ∀ d ∈ ds, ∃ x r, d = .tuple (x :: r)
  · exact SortsAt.data e hal (.inl hne) hu
  have room : ∀ {d d' : PyData}, d ∈ ds → A.units + min d.depth d'.depth < cLine := fun {d d'} hd => Nat.lt_of_le_of_lt (Nat.add_le_add_left (Nat.min_le_left _ _) _) (hu d hd)
  refine ⟨fun v hv => ?_, ?_⟩
  · obtain ⟨d, hd, as, r⟩ := e.left v hv
    exact ⟨_, dataKind_some hal hd r⟩
  obtain ⟨fs, f1, f2, f3⟩ := firstsTup (prog := prog) (w := w) (A := A) e ht
  have hall : ¬ (fs.toArray.all fun x => x.isSome) = true := fun z => hne (f2 fun f hf => by
    have z2 : fs.all (fun x => x.isSome) = true := by simpa using z
    exact List.all_eq_true.mp z2 f hf)
  refine ⟨if ((fs.toArray[0]?).bind id).isSome = true then general' else oneType', ?_, fun h2 E Q hq => ?_⟩
  · intro E x y a b Q ha hb hq
    obtain ⟨d, as, hd, ra, rfl⟩ := dataKind_inv ha
    obtain ⟨d', as', hd', rb, rfl⟩ := dataKind_inv hb
    have hdd := hal d hd d' hd'
    have hroom := room (d' := d') hd
    split
    · show wpAny (model prog w) A (oneLt' false x y) Q E s
      exact oneLt_alike (fun h => nomatch h) ra rb hdd (by obtain ⟨xs, rfl⟩ := ht d hd; exact fun h => nomatch h) hroom hq
    · rw [keyLt'_oneType]
      obtain ⟨xs, rfl⟩ := ht d hd
      obtain ⟨ys, rfl⟩ := ht d' hd'
      exact oneLtTup ra rb hdd hroom hq
  · rw [kat_kind_eq, List.mapM_toArray, map_eq_pure_bind]
    refine wpAny_bind (wpAny_bind (f3 E _ (wpAny_pure ?_)))
    rw [if_neg hall]
    by_cases hf0 : ((fs.toArray[0]?).bind id).isSome = true
    · rw [if_pos hf0] at hq ⊢
      exact wpAny_pure hq
    · rw [if_neg hf0] at hq ⊢
      rw [oneTypeOnly'_eq, List.mapM_toArray, map_eq_pure_bind]
      refine wpAny_bind (wpAny_bind (wpAny_bind (kas_mapM (r := Value.type "tuple") _ (fun v hv Q' hq => ?_) (wpAny_pure ?_))))
      · obtain ⟨d, hd, as, r⟩ := e.left v hv
        obtain ⟨xs, rfl⟩ := ht d hd
        exact (looks_reads r).here hq
      · obtain ⟨v₁, rest, rfl⟩ : ∃ v₁ rest, vs = v₁ :: rest := by
          match vs, h2 with
          | [], h2 => simp at h2
          | v₁ :: rest, _ => exact ⟨v₁, rest, rfl⟩
        have hal2 : ((List.map (fun _ => Value.type "tuple") (v₁ :: rest)).toArray.all fun x => x == Value.type "tuple") = true := by
          simp only [List.all_toArray, List.all_map, List.all_eq_true]
          intro _ _
          exact beq_self_eq_true _
        have h0 : (List.map (fun _ => Value.type "tuple") (v₁ :: rest)).toArray[0]? = some (Value.type "tuple") := by simp
        rw [h0]
        simp only [hal2, if_true]
        exact wpAny_pure (wpAny_pure hq)
theorem sortsD {vs : List Value} {ds : List PyData} (e : EachIs (fun v d => ∃ as, Reads s.heap v d as) vs ds) (hal : AllAlike ds) (hk : Srt ds) (hu : ∀ d, d ∈ ds → A.units + d.depth < cLine) :
    SortsAt prog w A s (dataKind s.heap ds) vs := by
  rcases hk with ht | ho
  · exact sortsTup e hal ht hu
  · exact SortsAt.data e hal (.inr ho) hu
theorem sortedD {β : Type} {vs : List Value} {bs : List β} {enc : β → PyData} {R : Value → β → Prop} {l : Addr} {Q : Value → Shared → Prop} (hl : s.heap.IsList l vs.toArray) (e : EachIs R vs bs) (er : EachIs (fun v b => ∃ as, Reads s.heap v (enc b) as) vs bs) (hal : AllAlike (bs.map enc)) (hk : Srt (bs.map enc)) (hL : bs.length ≤ sizeLine)
    (hu : ∀ b, b ∈ bs → A.units + 2 + (enc b).depth < cLine) (h : ∀ out, out.length = bs.length → EachIs R out (bs.mergeSort (dataLe false enc)) → Q (.ref (s.heap.objs.size + 1)) { s with heap := sortedAll s.heap vs (List.toArray out) }) :
    wpAny (model prog w) A (call (.builtin "sorted") [.ref l]) Q E s := by
  have er' : EachIs (fun v b => ∃ as, Reads (sortingHeap (copyHeap s.heap vs) (s.heap.objs.size + 1) vs) v (enc b) as) vs bs := er.mono fun _ _ ⟨as, r⟩ => ⟨as, PyProof.Rows.Reads.keeps (fun _ _ => sorting_copy_old) r⟩
  exact sorted_vals hl (sortsD (s := { s with heap := sortingHeap (copyHeap s.heap vs) (s.heap.objs.size + 1) vs }) (each_map (R := fun v d => ∃ as, Reads (sortingHeap (copyHeap s.heap vs) (s.heap.objs.size + 1) vs) v d as) enc er') hal hk (bound_map hu)) (by rw [e.length]; exact hL)
    (h _ (by rw [sortVals_length false rfl]; exact e.length) (sortVals_data false e er' hal))
end
/-- the values as they are sorted with their data -/
def sortV (vs : List V) (ds : List D) : List V := ((vs.zip ds).mergeSort (PySem.W.dataLe false Prod.snd)).map Prod.fst
theorem zip_snd {K : PySem.W.Frag} {H : Hp} : ∀ {vs : List V} {ds : List D}, DpAll K H vs ds → (vs.zip ds).map Prod.snd = ds
  | _, _, .nil => rfl
  | _, _, .cons _ t => by simp [zip_snd t]
theorem zip_dp {K : PySem.W.Frag} {H : Hp} : ∀ {vs : List V} {ds : List D}, DpAll K H vs ds → ∀ p ∈ vs.zip ds, Dp K H p.1 p.2
  | _, _, .nil, p, h => by simp at h
  | _, _, .cons a t, p, h => by
    rw [List.zip_cons_cons] at h
    rcases List.mem_cons.mp h with rfl | h
    · exact a
    · exact zip_dp t p h
theorem dpAll_of {K : PySem.W.Frag} {H : Hp} : ∀ (l : List (V × D)), (∀ p ∈ l, Dp K H p.1 p.2) → DpAll K H (l.map Prod.fst) (l.map Prod.snd)
  | [], _ => .nil
  | p :: l, h => .cons (h p List.mem_cons_self) (dpAll_of l fun q hq => h q (List.mem_cons_of_mem _ hq))
theorem sort_dp {K : PySem.W.Frag} {H : Hp} {vs : List V} {ds : List D} (h : DpAll K H vs ds) : DpAll K H (sortV vs ds) (sortD ds) := by
  have e : sortD ds = ((vs.zip ds).mergeSort (PySem.W.dataLe false Prod.snd)).map Prod.snd := by
    have q := List.map_mergeSort (r := PySem.W.dataLe false (Prod.snd : V × D → D)) (s := PySem.W.dataLe false id) (f := Prod.snd) (l := vs.zip ds) (fun a _ b _ => rfl)
    rw [zip_snd h] at q
    exact q.symm
  rw [e]
  unfold sortV
  exact dpAll_of _ fun p hp => zip_dp h p (List.mem_mergeSort.mp hp)
def rSortD (K : PySem.W.Frag) : List V → Hp → VK → Prop := fun xs H Q => ∃ a vs ds, xs = [.ref a] ∧ SqL K H a vs ∧ DpAll K H vs ds ∧ PySem.W.AllAlike ds ∧ Srt ds ∧ (∀ d ∈ ds, d.depth ≤ 60) ∧ ds.length ≤ sizeLine ∧
  ∀ p, H p = none → Q (.ref p) (upd H p (.lst (sortV vs ds)))
theorem each_zip {X : Cx} {pins : List (Addr × Obj)} {σ : L2.St} {H : Hp} {s : Shared} (I : Inv X pins σ H s) : ∀ {vs : List V} {ds : List D} {its : List Value}, DpAll X.K H vs ds → Vals vs its →
    PySem.W.EachIs (fun (u : Value) (b : V × D) => RelV b.1 u) its (vs.zip ds) ∧ PySem.W.EachIs (fun (u : Value) (b : V × D) => ∃ as, Reads s.heap u b.2 as) its (vs.zip ds)
  | _, _, _, .nil, .nil => ⟨.nil, .nil⟩
  | _, _, _, .cons a t, .cons r q => by
    obtain ⟨h1, h2⟩ := each_zip I t q
    exact ⟨.cons r h1, .cons (Dp.reads I _ _ _ a r) h2⟩
theorem each_vals : ∀ {out : List Value} {l : List (V × D)}, PySem.W.EachIs (fun (u : Value) (b : V × D) => RelV b.1 u) out l → Vals (l.map Prod.fst) out
  | _, _, .nil => .nil
  | _, _, .cons a t => .cons a (each_vals t)
theorem cb_sorted {X : Cx} (hu : X.A.units + 65 < cLine) : CallR X (.builtin "sorted") (rSortD X.K) := by
  intro pins s σ H xs us Q I r h
  obtain ⟨a, vs, ds, rfl, hs, hd, hal, hk, hdp, hL, q⟩ := h
  obtain ⟨its, rv, hl, hz⟩ := I.list hs
  rw [Vals.ref1 r]
  obtain ⟨e1, e2⟩ := each_zip I hd rv
  have hds := zip_snd hd
  have hlen : (vs.zip ds).length = ds.length := by rw [← hds, List.length_map]; rw [hds]
  refine sortedD (bs := vs.zip ds) (enc := Prod.snd) hl.isList e1 e2 (by rw [hds]; exact hal) (by rw [hds]; exact hk) (by rw [hlen]; exact hL) (fun b hb => ?_) fun out ho eo => ?_
  · have : b.2 ∈ ds := by rw [← hds]; exact List.mem_map_of_mem hb
    have := hdp _ this
    omega
  · obtain ⟨ep, he'⟩ := PyProof.Rows.sortedAll_at s.heap its out.toArray
    have hv := each_vals eo
    have hl2 : (sortV vs ds).length ≤ sizeLine := by
      have := hv.length
      unfold sortV
      rw [this, ho, hlen]; exact hL
    exact ⟨.ref _, upd H (s.heap.objs.size + 1) (.lst (sortV vs ds)), I.laid (t' := s.toks) (fun _ _ => PyProof.Rows.sortedAll_old) (Nat.le_succ _) ⟨hl2, out, ep, hv, he'⟩, rfl, q _ (I.hok.fresh (Nat.le_succ _))⟩
theorem c1_sorted {c : Ct} : C1ok c (rSortD c.K) sortedS := by
  intro Hf H vs rs Q i h o
  unfold sortedS at o
  split at o
  · split at o
    · rename_i xs e
      split at o
      · rename_i hc
        cases h with
        | cons a b =>
          cases b
          obtain ⟨p, ws, rfl, h1, h2⟩ := datL_ok i a e
          exact ⟨_, _, _, rfl, h1, dpAll_mono i h2, allAlike_of hc.1, sortable_of hc.2.1, fun d hd => of_decide_eq_true (List.all_eq_true.mp hc.2.2.1 d hd), hc.2.2.2, fun p hp => GE.newL o i hp (sort_dp h2)⟩
      · exact o.elim
    · exact o.elim
  · exact o.elim

/-! ### list(range(..)) -/
def lrng1 (f : En → R SV) : En → R SV := fun ρ => f ρ >>= fun a => match a with
  | .d (.int j) => if okR j = true ∧ j ≤ 16777216 then .ok (.ol (rng 0 j)) else .bad
  | _ => .bad
def lrng2 (f g : En → R SV) : En → R SV := fun ρ => f ρ >>= fun a => g ρ >>= fun b => match a, b with
  | .d (.int i), .d (.int j) => if okR i = true ∧ okR j = true ∧ j - i ≤ 16777216 then .ok (.ol (rng i j)) else .bad
  | _, _ => .bad
theorem rgV_dp {K : PySem.W.Frag} {H : Hp} (a b : Int) : DpAll K H (rgV a b) (rng a b) := by
  unfold rgV rng
  induction List.range (b - a).toNat with
  | nil => exact .nil
  | cons k r ih => exact .cons (.int _) ih
theorem sem_lrng1 {c : Ct} {t : TE} {f : En → R SV} (h : SemE c false t f) : SemE c true (tLstRg (tRg1 t)) (lrng1 f) := by
  intro B H0 Hf H σ ρ Q I o
  refine h B H0 Hf H σ ρ _ I (Out.bind o fun a ea o1 => fun v Hf1 H1 x1 q1 _ => ?_)
  split at o1
  · split at o1
    · rename_i hj
      cases q1
      exact ⟨_, rfl, ⟨by omega, by omega, (okR_ok hj.1).1, (okR_ok hj.1).2, by have := hj.2; omega⟩, fun p hp => GE.newL (GE.grow (show GE c true Hf H Q _ from o1) x1) x1.i hp (rgV_dp _ _)⟩
    · exact o1.elim
  · exact o1.elim
theorem sem_lrng2 {c : Ct} {t u : TE} {f g : En → R SV} (h : SemE c false t f) (h' : SemE c false u g) : SemE c true (tLstRg (tRg2 t u)) (lrng2 f g) := by
  intro B H0 Hf H σ ρ Q I o
  refine h B H0 Hf H σ ρ _ I (Out.bind o fun a ea o1 => fun v Hf1 H1 x1 q1 _ => ?_)
  refine h' B H0 Hf1 H1 σ ρ _ (I.grow x1) (Out.bind (o1.grow x1 fun _ z => z) fun b eb o2 => fun u Hf2 H2 x2 q2 _ => ?_)
  split at o2
  · split at o2
    · rename_i hj
      cases q1; cases q2
      exact ⟨_, _, rfl, rfl, ⟨(okR_ok hj.1).1, (okR_ok hj.1).2, (okR_ok hj.2.1).1, (okR_ok hj.2.1).2, by have := hj.2.2; omega⟩, fun p hp => GE.newL (GE.grow (show GE c true Hf H Q _ from o2) (x1.trans x2)) x2.i hp (rgV_dp _ _)⟩
    · exact o2.elim
  · exact o2.elim

/-! ### is True, is False, of any datum -/
section
variable {X : Cx}
def rIsB2 (K : PySem.W.Frag) : R2 := fun x y H Q => ∃ d b, Dp K H x d ∧ y = .bl b ∧ Q (.bl (decide (x = .bl b))) H
def rNotB2 (K : PySem.W.Frag) : R2 := fun x y H Q => ∃ d b, Dp K H x d ∧ y = .bl b ∧ Q (.bl (!decide (x = .bl b))) H
theorem dp_bool {K : PySem.W.Frag} {H : Hp} {x : V} {d : D} {v : Value} {b : Bool} (h : Dp K H x d) (r : RelV x v) : PySem.plainIs v (.bool b) = true ∧ (decide (x = .bl b) = (v == .bool b)) := by
  cases h with
  | non => cases r; exact ⟨rfl, rfl⟩
  | bl c =>
    cases (show v = Value.bool c from r)
    refine ⟨rfl, ?_⟩
    cases b <;> cases c <;> rfl
  | int i => obtain ⟨t, rfl⟩ := r; exact ⟨rfl, rfl⟩
  | str z => obtain ⟨t, rfl⟩ := r; exact ⟨rfl, rfl⟩
  | lst _ _ => cases r; exact ⟨rfl, rfl⟩
  | tup _ _ => cases r; exact ⟨rfl, rfl⟩
theorem op_isB2 : OpR X (compareOp .Is) (rIsB2 X.K) := by
  intro pins s σ H x y v u Q I rx ry h
  obtain ⟨d, b, hd, rfl, q⟩ := h
  cases (show u = Value.bool b from ry)
  obtain ⟨h1, h2⟩ := dp_bool (b := b) hd rx
  exact PySem.wpAny_is_plain h1 ⟨.bl _, H, I, by rw [← h2]; rfl, q⟩
theorem op_notB2 : OpR X (compareOp .IsNot) (rNotB2 X.K) := by
  intro pins s σ H x y v u Q I rx ry h
  obtain ⟨d, b, hd, rfl, q⟩ := h
  cases (show u = Value.bool b from ry)
  obtain ⟨h1, h2⟩ := dp_bool (b := b) hd rx
  exact PySem.wpAny_isNot_plain h1 ⟨.bl _, H, I, by rw [← h2]; rfl, q⟩
end
def isbD (d : D) (b : Bool) : Bool := match d with
  | .bool a => decide (a = b)
  | _ => false
def isbS (neg : Bool) (x y : SV) : R SV := match y with
  | .d (.bool b) => datS x >>= fun d => .ok (.d (.bool (if neg then !isbD d b else isbD d b)))
  | _ => .bad
theorem isbD_of {K : PySem.W.Frag} {H : Hp} {x : V} {d : D} (b : Bool) (h : Dp K H x d) : decide (x = .bl b) = isbD d b := by
  cases h with
  | bl c => cases b <;> cases c <;> rfl
  | _ => rfl
theorem r2_isB {c : Ct} : R2ok c (rIsB2 c.K) (isbS false) := by
  intro Hf H x y rx ry Q i hx hy o
  unfold isbS at o
  split at o
  · obtain ⟨d, e1, o2⟩ := out_dat o
    cases hy
    have q := looked (c := c) i hx e1
    exact ⟨d, _, q, rfl, by rw [isbD_of _ q]; exact GE.now o2 i (.bl _)⟩
  · exact o.elim
theorem r2_notB {c : Ct} : R2ok c (rNotB2 c.K) (isbS true) := by
  intro Hf H x y rx ry Q i hx hy o
  unfold isbS at o
  split at o
  · obtain ⟨d, e1, o2⟩ := out_dat o
    cases hy
    have q := looked (c := c) i hx e1
    exact ⟨d, _, q, rfl, by rw [isbD_of _ q]; exact GE.now o2 i (.bl _)⟩
  · exact o.elim

/-! ### a list of this frame is changed -/
/-- the slot's object is written anew -/
theorem EnvOk.rewrite {K : Kx} {B : Bs} {H0 Hf H : Hp} {σ : L2.St} {ρ : En} {i : Nat} {xs xs' : List D} {vs vs' : List V} {p : Addr} (I : EnvOk K B H0 Hf H σ ρ) (e : ρ[i]? = some (some (.ol xs))) (h1 : σ[i]? = some (some (.ref p))) (h2 : H p = some (.lst vs)) (h3 : Hf p = none) (h4 : DpAll K Hf vs' xs') :
    EnvOk K B H0 Hf (upd H p (.lst vs')) σ (ρ.set i (some (.ol xs'))) := by
  have hn := I.new i _ p e rfl h1
  refine ⟨⟨I.ext.f, fun b o eb => ?_, fun b o eb => ?_, I.ext.n⟩, by rw [List.length_set]; exact I.len, fun j s ej => ?_, fun j s q ej oj es => ?_, fun j k sj sk q ej oj ek ok e1 e2 => ?_, fun j ys ej => ?_⟩
  · rw [upd_ne (ne_of_none eb hn)]; exact I.ext.h _ _ eb
  · rw [upd_ne (ne_of_none eb h3)]; exact I.i _ _ eb
  · rcases set_get ej with ⟨rfl, ej, _⟩ | ⟨hj, ej⟩
    · cases ej
      exact ⟨_, h1, p, _, rfl, upd_same, h3, h4⟩
    · obtain ⟨w, w1, w2⟩ := I.sl j s ej
      refine ⟨w, w1, ?_⟩
      cases s with
      | d x => exact w2
      | ol ys =>
        obtain ⟨q, us, rfl, u1, u2⟩ := w2
        have hq : q ≠ p := fun z => hj (I.sep j i _ _ p ej rfl e rfl (z ▸ w1) h1)
        exact ⟨q, us, rfl, by rw [upd_ne hq]; exact u1, u2⟩
      | od ys =>
        obtain ⟨q, us, rfl, u1, u2⟩ := w2
        have hq : q ≠ p := fun z => hj (I.sep j i _ _ p ej rfl e rfl (z ▸ w1) h1)
        exact ⟨q, us, rfl, by rw [upd_ne hq]; exact u1, u2⟩
      | pin ys =>
        obtain ⟨q, us, rfl, u1, u2⟩ := w2
        have hq : q ≠ p := I.pin_ne ej w1 hn
        exact ⟨q, us, rfl, by rw [upd_ne hq]; exact u1, u2⟩
      | exn n as => exact ⟨w2.1, w2.2.1, w2.2.2.upd h2⟩
      | pd ys => exact w2
      | kd ys =>
        obtain ⟨q, ep, us, rfl, u1, u2⟩ := w2
        have hq : q ≠ p := fun z => hj (I.sep j i _ _ p ej rfl e rfl (z ▸ w1) h1)
        exact ⟨q, ep, us, rfl, by rw [upd_ne hq]; exact u1, u2⟩
      | sk ys => exact w2
      | sd ys => exact w2
      | so C fs => exact w2
      | rw _ _ _ _ => exact w2
      | oi C fs =>
        obtain ⟨q, dx, us, rfl, u1, u2⟩ := w2
        have hq : q ≠ p := fun z => hj (I.sep j i _ _ p ej rfl e rfl (z ▸ w1) h1)
        exact ⟨q, dx, us, rfl, by rw [upd_ne hq]; exact u1, u2⟩
  · rcases set_get ej with ⟨rfl, ej, _⟩ | ⟨_, ej⟩
    · rw [h1] at es; cases es; exact hn
    · exact I.new j s q ej oj es
  · have old : ∀ {j : Nat} {s : SV}, (ρ.set i (some (.ol xs')))[j]? = some (some s) → s.own = true → ∃ s', ρ[j]? = some (some s') ∧ s'.own = true := by
      intro j s ej oj
      rcases set_get ej with ⟨rfl, _, _⟩ | ⟨_, ej⟩
      · exact ⟨_, e, rfl⟩
      · exact ⟨s, ej, oj⟩
    obtain ⟨sj', a1, a2⟩ := old ej oj
    obtain ⟨sk', b1, b2⟩ := old ek ok
    exact I.sep j k sj' sk' q a1 a2 b1 b2 e1 e2
  · rcases set_get ej with ⟨_, ej, _⟩ | ⟨_, ej⟩
    · cases ej
    · exact I.pin j ys ej
/-- x[k] = e -/
def setS (i : Nat) (fk f : En → R SV) : En → R Fl := fun ρ => f ρ >>= fun r => datS r >>= fun d => match ρ[i]? with
  | some (some (.ol xs)) => fk ρ >>= fun k => (match k with
    | .d (.int n) => (match ixN xs.length n with
      | some j => .ok (.nx (ρ.set i (some (.ol (xs.set j d)))))
      | none => .bad)
    | _ => .bad)
  | _ => .bad
theorem sem_setL {c : Ct} {i : Nat} {t tk : TE} {f fk : En → R SV} (h : SemE c true t f) (hk : SemE c false tk fk) : SemS c (tAsg t (gSub (tVar i) tk rSetL)) (setS i fk f) := by
  intro B H0 Hf H σ ρ Dn I o
  refine h B H0 Hf H σ ρ _ I ((Out.bind o fun a ea o1 => ?_ : Out c B H0 (f ρ) (GE c true Hf H _)).here I.ext)
  intro u Hf1 H1 x1 q1 fr
  obtain ⟨d, ed, o2⟩ := out_dat o1
  obtain ⟨Hf2, x2, q2⟩ := froze x1 q1 (fr rfl) ed
  split at o2
  rotate_left
  · exact o2.elim
  rename_i xs e
  have I2 := I.grow x2
  obtain ⟨v, h1, p, vs, rfl, h2, h3, h4⟩ := I2.sl i _ e
  refine ⟨.ref p, h1, ?_⟩
  refine hk B H0 Hf2 H1 σ ρ _ I2 ((Out.bind o2 fun kk ek o3 => ?_ : Out c B H0 (fk ρ) (GE c false Hf2 H1 _)).here I2.ext)
  intro w Hf3 H3 x3 q3 _
  split at o3
  rotate_left
  · exact o3.elim
  rename_i n
  split at o3
  rotate_left
  · exact o3.elim
  rename_i j ej
  cases q3
  have I3 := I2.grow x3
  have h2' := x3.h _ _ h2
  have h3' := x3.still h2 h3
  exact ⟨p, vs, _, j, rfl, rfl, h2', by rw [dpAll_len h4]; exact ej, (show GS c B H0 Dn (.nx _) from o3) _ _ _ (I3.rewrite e h1 h2' h3' (dpAll_set (dp_mono x3.f q2) j (dpAll_mono x3.f h4)))⟩
/-- x.extend(e), e a new list -/
def extS (i : Nat) (f : En → R SV) : En → R Fl := fun ρ => match ρ[i]? with
  | some (some (.ol xs)) => f ρ >>= fun r => (match r with
    | .ol ys => if xs.length + ys.length ≤ sizeLine then .ok (.nx (ρ.set i (some (.ol (xs ++ ys))))) else .bad
    | _ => .bad)
  | _ => .bad
theorem sem_ext {c : Ct} {i : Nat} {t : TE} {f : En → R SV} (h : SemE c true t f) : SemS c (tDrop (tBM c.K "list" rExtend (tVar i) (tCons t tNil))) (extS i f) := by
  intro B H0 Hf H σ ρ Dn I o
  unfold extS at o
  split at o
  rotate_left
  · exact o.elim
  rename_i xs e
  obtain ⟨v, h1, p, vs, rfl, h2, h3, h4⟩ := I.sl i _ e
  refine ⟨.ref p, h1, .inl ⟨rfl, vs, .inl (.inl h2)⟩, ?_⟩
  refine h B H0 Hf H σ ρ _ I ((Out.bind o fun a ea o1 => ?_ : Out c B H0 (f ρ) (GE c true Hf H _)).here I.ext)
  intro u Hf1 H1 x1 q1 fr
  split at o1
  rotate_left
  · exact o1.elim
  rename_i ys
  obtain ⟨p2, vs2, rfl, g1, g2, g3⟩ := q1
  split at o1
  rotate_left
  · exact o1.elim
  rename_i hlen
  have h2' := x1.h _ _ h2
  have h3' := x1.still h2 h3
  refine ⟨p, p2, vs, vs2, rfl, rfl, h2', g1, by rw [dpAll_len h4, dpAll_len g3]; exact hlen, ?_⟩
  exact (show GS c B H0 Dn (.nx _) from o1) _ _ _ ((I.grow x1).rewrite e h1 h2' h3' (dpAll_append (dpAll_mono x1.f h4) g3))

/-! ### a def that never answers (the ground of a recursion) -/
theorem mk_bad {P : Program} {w : World} {K : PySem.W.Frag} {mg : Str → Option Value} {base : Heap} {x qual : Str} {st : Stmt} {f : Addr} {fd : FuncData} {N ps : List Str} {k : Nat} {cm : Nat → Addr × List Str} {n : Nat} (F : Fun K x qual st f fd) (S : FnScope N ps (defScope st)) (hn : n = ps.length) :
    FnOk P w K mg base CX0 (k + 1) f fd ps (spF w K cm n fun _ => .bad) := by
  refine F.ok S (fun vs H Q E h => h.1.trans hn) fun cdv A outer s H vs Q E hr h => ?_
  obtain ⟨_, _, _, _, _, _, o⟩ := h
  exact o.elim
end Pl
namespace Pl
open PySem PySem.Spec PyProof.Rows L2
section
variable {c : Ct}
/-! ### x[::-1] of a list -/
def revS (a : SV) : R SV := match datL a with
  | .ok xs => .ok (.ol xs.reverse)
  | _ => .bad
theorem dpAll_rev {K : PySem.W.Frag} {H : Hp} : ∀ {vs : List V} {ds : List D}, DpAll K H vs ds → DpAll K H vs.reverse ds.reverse
  | _, _, .nil => .nil
  | _, _, .cons a t => by
    rw [List.reverse_cons, List.reverse_cons]
    exact dpAll_append (dpAll_rev t) (.cons a .nil)
theorem sem_revL {t : TE} {f : En → R SV} (h : SemE c false t f) : SemE c true (tRevL c.K t) (una revS f) := by
  intro B H0 Hf H σ ρ Q I o
  refine h B H0 Hf H σ ρ _ I (Out.bind o fun a ea o1 => fun v Hf1 H1 x1 q1 _ => ?_)
  unfold revS at o1
  split at o1
  · rename_i xs e
    obtain ⟨p, vs, rfl, h1, h2⟩ := datL_ok x1.i q1 e
    exact ⟨_, _, rfl, h1, fun q hq => GE.newL (GE.grow (show GE c true Hf H Q _ from o1) x1) x1.i hq (dpAll_rev h2)⟩
  · exact o1.elim
/-! ### range with a step -/
def rng3 (i c : Int) (n : Nat) : List D := (List.range n).map fun k => .int (i + (k : Nat) * c)
def rngD3 (f : En → R (List SV)) : En → R (List D) := fun ρ => f ρ >>= fun a => match a with
  | [.d (.int i), .d (.int j), .d (.int k)] => if 0 < k ∧ k < 1073741824 ∧ Builtin.Range.small i j k = true then .ok (rng3 i k (if i < j then (j - i - 1) / k + 1 else 0).toNat) else if k = -1 ∧ okR i = true ∧ okR j = true then .ok (rng3 i k (i - j).toNat) else .bad
  | _ => .bad
theorem walks_rng3 {K : PySem.W.Frag} {Hf : Hp} {i k : Int} {n : Nat} : Walks K (Itc i k n) Hf (rng3 i k n) := by
  refine ⟨YFn fun m => .int (i + (m : Nat) * k), ?_, fun m H x H' Hfi hl s1 s2 y => ?_⟩
  · have w := @walk_rangeC i k n
    unfold rng3
    rw [List.length_map, List.length_range]
    exact w.mono (fun _ _ => trivial) fun _ _ _ _ _ _ y => y
  · obtain ⟨rfl, rfl⟩ := y
    unfold rng3 at hl ⊢
    rw [List.length_map] at hl
    refine ⟨.int (i + (m : Nat) * k), Hfi, ?_, .refl s2, .int _⟩
    rw [List.getElem?_map, List.getElem?_range (by simpa using hl)] <;> rfl
theorem sem_rng3 {t : TA} {f : En → R (List SV)} (h : SemB c t f) : SemI c (iRng3 t) (rngD3 f) := by
  intro B H0 Hf H σ ρ Rr I o
  refine h B H0 Hf H σ ρ _ I (Out.bind o fun rs ers o1 => fun vs Hf1 H1 x1 q1 => ?_)
  split at o1
  · rename_i i j k
    split at o1
    · rename_i hj
      cases q1 with
      | cons a b =>
        cases b with
        | cons b d =>
          cases d with
          | cons d e =>
            cases e; cases a; cases b; cases d
            refine ⟨i, j, k, (if i < j then (j - i - 1) / k + 1 else 0).toNat, rfl, ⟨by omega, by omega, hj.2.2, ?_⟩, (show ∀ J Hf' H', Ext Hf H Hf' H' → Walks c.K J Hf' _ → Rr J H' from o1) _ Hf1 H1 x1 walks_rng3⟩
            unfold Builtin.Range.rangeSize
            rw [if_pos hj.1]
            by_cases hij : i < j
            · rw [if_pos hij]
              have := Int.ediv_nonneg (show 0 ≤ j - i - 1 by omega) (show 0 ≤ k by omega)
              omega
            · rw [if_neg hij]; rfl
    · split at o1
      · rename_i hk
        obtain ⟨rfl, h1, h2⟩ := hk
        cases q1 with
        | cons a b =>
          cases b with
          | cons b d =>
            cases d with
            | cons d e =>
              cases e; cases a; cases b; cases d
              exact ⟨i, j, -1, (i - j).toNat, rfl, RgC.neg (okR_ok h1).1 (okR_ok h1).2 (okR_ok h2).1 (okR_ok h2).2, (show ∀ J Hf' H', Ext Hf H Hf' H' → Walks c.K J Hf' _ → Rr J H' from o1) _ Hf1 H1 x1 walks_rng3⟩
      · exact o1.elim
  · exact o1.elim
/-! ### a text some times -/
def rMulS : R2 := fun x y H Q => ∃ z n, x = .str z ∧ y = .int n ∧ MulOk z n ∧ Q (.str (Txt.mul z n)) H
theorem op_mulS {X : Cx} : OpR X (binaryOp .Mult) rMulS := by
  intro pins s σ H x y v u Q I rx ry h
  obtain ⟨z, n, rfl, rfl, ok, q⟩ := h
  obtain ⟨t, rfl⟩ := rx
  obtain ⟨t', rfl⟩ := ry
  exact SB.mul ok fun t2 k => ⟨.str _, H, I.tok _, ⟨_, rfl⟩, q⟩
abbrev rMulA : R2 := fun x y H Q => rI CMul (fun i j => .int (i * j)) x y H Q ∨ rMulS x y H Q
theorem o_mul {X : Cx} : OpR X (binaryOp .Mult) rMulA := Pl.OpR.or op_mul op_mulS
def mulA (a b : SV) : R SV := match a, b with
  | .d (.str z), .d (.int n) => if 1 ≤ n ∧ n ≤ 1000 ∧ z.length ≤ 1000 then .ok (.d (.str (Txt.mul z n))) else .bad
  | a, b => mulS a b
theorem mulOk_of {z : Str} {n : Int} (h : 1 ≤ n ∧ n ≤ 1000 ∧ z.length ≤ 1000) : MulOk z n := by
  obtain ⟨h1, h2, h3⟩ := h
  refine ⟨?_, fun _ _ => ?_, fun _ _ => ?_⟩
  · rw [decide_eq_false (show ¬ n < -(2 ^ 63 : Int) by omega), decide_eq_false (show ¬ n ≥ 2 ^ 63 by omega)] <;> rfl
  · have : (1000 : Int) ≤ (2 ^ 63 - 1) / n := Int.le_ediv_of_mul_le (by omega) (by omega)
    omega
  · have q : z.length * n.toNat ≤ 1000 * 1000 := Nat.mul_le_mul h3 (by omega)
    have hz := sizeLine_eq
    unfold Builtin.Str.tooLong
    first
      | exact decide_eq_false (by omega)
      | (simp; omega)
theorem r2_mulA : R2ok c rMulA mulA := by
  intro Hf H x y rx ry Q i hx hy o
  unfold mulA at o
  split at o
  · split at o
    · rename_i h
      cases hx; cases hy
      exact .inr ⟨_, _, rfl, rfl, mulOk_of h, GE.now o i (.str _)⟩
    · exact o.elim
  · exact .inl (r2_mul Hf H x y _ _ Q i hx hy o)
end
end Pl
namespace Pl
open PySem PySem.Spec PyProof.Rows L2
section
variable {c : Ct}
/-! ### a list of this frame walked while it stays this frame's -/
theorem Ext.deep {B H0 H0' Hf H X Y : Hp} (g : Same H0 H0') (x : Ext B H0 Hf H) (y : Ext Hf H0' X Y) : Ext B H0 X Y :=
  ⟨x.f.trans y.f, g.trans y.h, y.i, fun p e => by
    rcases y.n p e with z | z
    · exact x.n p z
    · exact .inr (g.free z)⟩
theorem loop_pinned {is : List Nat} {g : TG} {tb : TS} {k : D → En → R En} {b : En → R Fl} (hg : SemG c is g k) (hb : SemS c tb b) {B : Bs} {H0 Hf H : Hp} {σ : L2.St} {ρ : En} {Dn : Ends} {p : Addr} {vs : List V} {xs : List D}
    (I : EnvOk c.K B H0 Hf H σ ρ) (hp : H0 p = some (.lst vs)) (hx : DpAll c.K Hf vs xs) (o : Out c B.h H0 (forF k b xs ρ) (GS c B H0 Dn)) :
    ∃ W : Nat → Nat → L2.St → Hp → Prop, (∃ m, W 0 m σ H) ∧ ∀ i m σ H, W i m σ H →
      ((Itl c.K p).stop i H ∧ Dn.nx σ H) ∨ ((Itl c.K p).go i H ∧ ∃ N : L2.St → Hp → Prop, (∀ σ' H', N σ' H' → ∃ m', m' < m ∧ W (i + 1) m' σ' H') ∧ ∀ x H', (Itl c.K p).yld i H x H' → g x σ H' fun σ2 H2 => tb { Dn with nx := N, ct := N, bk := Dn.nx } σ2 H2) := by
  have hl := dpAll_len hx
  refine for_it (walk_list (K := c.K) (a := p) (xs := vs)) (fun i σ H => i ≤ xs.length ∧ ∃ Hfi ρ, Same Hf Hfi ∧ EnvOk c.K B H0 Hfi H σ ρ ∧ Out c B.h H0 (forF k b (xs.drop i) ρ) (GS c B H0 Dn)) ⟨Nat.zero_le _, Hf, ρ, .refl _, I, o⟩ (fun i σ H _ ⟨_, Hfi, ρ, s, I, _⟩ => .inl (.inl (I.ext.h _ _ hp))) ?_ ?_
  · rintro i x σ H H' hlt ⟨_, Hfi, ρ, s, I, o⟩ ⟨rfl, y⟩
    rw [hl] at hlt
    obtain ⟨d, e1, q⟩ := dpAll_getV hx y
    have q := dp_mono s q
    have ed : xs.drop i = d :: xs.drop (i + 1) := by
      rw [List.drop_eq_getElem_cons hlt]
      rw [List.getElem?_eq_getElem hlt] at e1
      cases e1; rfl
    rw [ed] at o
    unfold forF at o
    cases ek : k d ρ with
    | bad => simp only [ek] at o; exact o.elim
    | ex n as => simp only [ek] at o; exact o.elim
    | ok ρ1 =>
      simp only [ek] at o
      refine hg B H0 Hfi _ σ ρ x d _ I q ⟨ρ1, ek, fun σ1 _ _ I3 => ?_⟩
      have xb : Ext B.h H0 Hfi _ := I.ext
      refine hb ⟨Hfi, B.fx⟩ H0 Hfi _ σ1 ρ1 _ I3.rebase ?_
      cases eb : b ρ1 with
      | bad => rw [eb] at o; exact o.elim
      | ex n as => rw [eb] at o; exact ExW.rebase (show ExW c B.h H0 n as from o) xb
      | ok fl =>
        rw [eb] at o
        cases fl with
        | nx ρ2 => exact fun Hf2 H2 σ2 J2 => ⟨hlt, Hf2, ρ2, s.trans J2.ext.f, J2.unbase xb, o⟩
        | ct ρ2 => exact fun Hf2 H2 σ2 J2 => ⟨hlt, Hf2, ρ2, s.trans J2.ext.f, J2.unbase xb, o⟩
        | bk ρ2 => exact fun Hf2 H2 σ2 J2 => (show GS c B H0 Dn (.nx ρ2) from o) _ _ _ (J2.unbase xb)
        | rt r => exact GS.rebase (show GS c B H0 Dn (.rt r) from o) xb
  · rintro σ H ⟨_, Hfi, ρ, s, I, o⟩
    rw [hl, List.drop_length] at o
    exact (show GS c B H0 Dn (.nx ρ) from o) _ _ _ I
def unpin (i : Nat) : Fl → R Fl
  | .nx ρ => (match ρ[i]? with
    | some (some (.pin ys)) => .ok (.nx (ρ.set i (some (.ol ys))))
    | _ => .bad)
  | .rt r => .ok (.rt r)
  | _ => .bad
def forP (i : Nat) (k : D → En → R En) (b : En → R Fl) : En → R Fl := fun ρ => match ρ[i]? with
  | some (some (.ol xs)) => forF k b xs (ρ.set i (some (.pin xs))) >>= unpin i
  | some (some (.pin xs)) => forF k b xs ρ
  | some (some (.d (.list xs))) => forF k b xs ρ
  | some (some (.d (.tuple xs))) => forF k b xs ρ
  | _ => .bad
open Classical in
theorem sem_forP {i : Nat} {is : List Nat} {g : TG} {tb : TS} {k : D → En → R En} {b : En → R Fl} (hg : SemG c is g k) (hb : SemS c tb b) : SemS c (tFor (iSeq c.K (tVar i)) g tb) (forP i k b) := by
  intro B H0 Hf H σ ρ Dn I o
  unfold forP at o
  have hd : ∀ (x : D) (xs : List D), ρ[i]? = some (some (.d x)) → (x = .list xs ∨ x = .tuple xs) → Out c B.h H0 (forF k b xs ρ) (GS c B H0 Dn) → tFor (iSeq c.K (tVar i)) g tb Dn σ H := by
    intro x xs e hx o
    refine sem_for (sem_seqI (sem_var (i := i))) hg hb B H0 Hf H σ ρ Dn I ?_
    unfold forS seqD getV
    rw [e]
    rcases hx with rfl | rfl <;> exact o
  split at o
  · rename_i xs e
    obtain ⟨v, h1, p, vs, rfl, h2, h3, h4⟩ := I.sl i _ e
    have hn := I.new i _ p e rfl h1
    have hi : i < ρ.length := (List.getElem?_eq_some_iff.mp e).1
    have g0 : Same H0 (upd H0 p (.lst vs)) := upd_grow hn
    have keep : ∀ {q : Addr} {o' : HO}, H0 q = some o' → B.h q = none → Hf q = none := fun {q o'} a1 a2 => by
      cases z : Hf q with
      | none => rfl
      | some o'' =>
        rcases I.ext.n q (by rw [z]; exact fun z => nomatch z) with w | w
        · exact absurd a2 w
        · rw [a1] at w; cases w
    have I' : EnvOk c.K ⟨Hf, fun j => if j = i then .ref p else if B.fx j = .ref p then .non else B.fx j⟩ (upd H0 p (.lst vs)) Hf H σ (ρ.set i (some (.pin xs))) := by
      refine ⟨⟨.refl _, fun b' o' eb => ?_, I.i, fun _ z => .inl z⟩, by rw [List.length_set]; exact I.len, fun j s ej => ?_, fun j s q ej oj es => ?_, fun j l sj sl q ej oj el ol e1 e2 => ?_, fun j ys ej => ?_⟩
      · by_cases z : b' = p
        · subst z; rw [upd_same] at eb; cases eb; exact h2
        · rw [upd_ne z] at eb; exact I.ext.h _ _ eb
      · rcases set_get ej with ⟨rfl, ej, _⟩ | ⟨_, ej⟩
        · cases ej; exact ⟨_, h1, p, vs, rfl, h2, h3, h4⟩
        · exact I.sl j s ej
      · rcases set_get ej with ⟨rfl, ej, _⟩ | ⟨hj, ej⟩
        · cases ej; cases oj
        · have hq : q ≠ p := fun z => hj (I.sep j i _ _ p ej oj e rfl (z ▸ es) h1)
          rw [upd_ne hq]; exact I.new j s q ej oj es
      · rcases set_get ej with ⟨rfl, ej, _⟩ | ⟨hj, ej⟩
        · cases ej; cases oj
        · rcases set_get el with ⟨rfl, el, _⟩ | ⟨hl, el⟩
          · cases el; cases ol
          · exact I.sep j l sj sl q ej oj el ol e1 e2
      · rcases set_get ej with ⟨rfl, ej, _⟩ | ⟨hj, ej⟩
        · exact ⟨p, .lst vs, if_pos rfl, h1, upd_same, h3⟩
        · obtain ⟨q, o', a1, a2, a3, a4⟩ := I.pin j ys ej
          have hq : q ≠ p := fun z => by rw [z, hn] at a3; cases a3
          refine ⟨q, o', ?_, a2, by rw [upd_ne hq]; exact a3, keep a3 a4⟩
          show (if j = i then V.ref p else if B.fx j = .ref p then .non else B.fx j) = .ref q
          rw [if_neg hj, if_neg (by rw [a1]; exact fun z => hq (by cases z; rfl)), a1]
    have back : ∀ {Hf2 H2 : Hp} {σ2 : L2.St} {ρ2 : En} {ys : List D}, EnvOk c.K ⟨Hf, fun j => if j = i then .ref p else if B.fx j = .ref p then .non else B.fx j⟩ (upd H0 p (.lst vs)) Hf2 H2 σ2 ρ2 → ρ2[i]? = some (some (.pin ys)) → EnvOk c.K B H0 Hf2 H2 σ2 (ρ2.set i (some (.ol ys))) := by
      intro Hf2 H2 σ2 ρ2 ys J e2
      obtain ⟨p', o', b1, b2, b3, b4⟩ := J.pin i ys e2
      have b1' : V.ref p = .ref p' := (if_pos rfl).symm.trans b1
      cases b1'
      refine ⟨Ext.deep g0 I.ext J.ext, by rw [List.length_set]; exact J.len, fun j s ej => ?_, fun j s q ej oj es => ?_, fun j l sj sl q ej oj el ol e1 e2' => ?_, fun j zs ej => ?_⟩
      · rcases set_get ej with ⟨rfl, ej, _⟩ | ⟨_, ej⟩
        · cases ej
          obtain ⟨v', c1, c2⟩ := J.sl j (.pin ys) e2
          exact ⟨v', c1, c2⟩
        · exact J.sl j s ej
      · rcases set_get ej with ⟨rfl, ej, _⟩ | ⟨hj, ej⟩
        · rw [b2] at es; cases es; exact hn
        · exact g0.free (J.new j s q ej oj es)
      · rcases set_get ej with ⟨rj, _, _⟩ | ⟨hj, ej2⟩
        · rcases set_get el with ⟨rl, _, _⟩ | ⟨hl, el2⟩
          · rw [rj, rl]
          · rw [rj, b2] at e1; cases e1
            have := J.new l sl p el2 ol e2'
            rw [upd_same] at this; cases this
        · rcases set_get el with ⟨rl, _, _⟩ | ⟨hl, el2⟩
          · rw [rl, b2] at e2'; cases e2'
            have := J.new j sj p ej2 oj e1
            rw [upd_same] at this; cases this
          · exact J.sep j l sj sl q ej2 oj el2 ol e1 e2'
      · rcases set_get ej with ⟨rfl, ej, _⟩ | ⟨hj, ej⟩
        · cases ej
        · obtain ⟨q, o'', a1, a2, a3, a4⟩ := J.pin j zs ej
          have a1' : (if j = i then V.ref p else if B.fx j = .ref p then .non else B.fx j) = .ref q := a1
          rw [if_neg hj] at a1'
          by_cases z : B.fx j = .ref p
          · rw [if_pos z] at a1'; cases a1'
          · rw [if_neg z] at a1'
            have hq : q ≠ p := fun w => z (by rw [a1', w])
            rw [upd_ne hq] at a3
            exact ⟨q, o'', a1', a2, a3, I.ext.f.free a4⟩
    refine .inl ⟨.ref p, h1, p, rfl, ⟨vs, .inl (.inl h2)⟩, loop_pinned hg hb I' (by exact upd_same) h4 ?_⟩
    cases ef : forF k b xs (ρ.set i (some (.pin xs))) with
    | bad => rw [ef] at o; exact o.elim
    | ex n as =>
      rw [ef] at o
      exact fun Hf' H' od y r => (show ExW c B.h H0 n as from o) Hf' H' od (Ext.deep g0 I.ext y) r
    | ok fl =>
      rw [ef, ok_bind] at o
      cases fl with
      | nx ρ2 =>
        unfold unpin at o
        dsimp only at o
        split at o
        · rename_i ys e2
          exact fun Hf2 H2 σ2 J => (show GS c B H0 Dn (.nx (ρ2.set i (some (.ol ys)))) from o) _ _ _ (back J e2)
        · exact o.elim
      | rt r => exact fun v Hf2 H2 y q fr => (show GS c B H0 Dn (.rt r) from o) v Hf2 H2 (Ext.deep g0 I.ext y) q fun ho pp ep => g0.free (fr ho pp ep)
      | bk ρ2 => exact o.elim
      | ct ρ2 => exact o.elim
  · rename_i xs e
    obtain ⟨v, h1, p, vs, rfl, h2, h3, h4⟩ := I.sl i _ e
    obtain ⟨p', o', _, b2, b3, _⟩ := I.pin i xs e
    rw [h1] at b2; cases b2
    have := I.ext.h _ _ b3
    rw [h2] at this; cases this
    exact .inl ⟨.ref p, h1, p, rfl, ⟨vs, .inl (.inl h2)⟩, loop_pinned hg hb I b3 h4 o⟩
  · rename_i xs e
    exact hd _ xs e (.inl rfl) o
  · rename_i xs e
    exact hd _ xs e (.inr rfl) o
  · exact o.elim
end
end Pl
namespace Pl
open PySem PySem.Spec PyProof.Rows L2
/-! ### enumerate of a list or a tuple -/
set_option maxHeartbeats 4000000 in
theorem meets_enum1 {v : Value} {o : Obj} {H : Heap → Prop} (B : Begins v o H) :
    Meets (Builtin.«enumerate.__new__» ⟨[.type "enumerate", v], []⟩) (fun _ R s => H s.heap ∧
      R (.ok (.ret (.ref (s.heap.push o).objs.size))) { s with heap := (s.heap.push o).push { cls := .type "enumerate", data := .fields #[.none, .bool false, .ref s.heap.objs.size, rawInt 0, .none, .none] } }) :=
  .of_wp fun prog w A R s h => by
    obtain ⟨hp, g, d, tk, os⟩ := s; obtain ⟨h1, h⟩ := h
    have hsub := sub_enumerate
    have q1 : ∀ {A' : Around} {E : Value → Shared → Prop} {Q : Value → Shared → Prop}, Q (.ref hp.objs.size) ⟨hp.push o, g, d, tk, os⟩ → wpAny (model prog w) A' (pyIter v) Q E ⟨hp, g, d, tk, os⟩ :=
      fun q => B.iter prog w _ _ ⟨hp, g, d, tk, os⟩ _ h1 q
    wp_walk using q1
    refine wpAny_stack_any fun st => wpAny_pure ?_
    split
    · rename_i c _ _ _ _ _
      cases (c == Value.type "enumerate")
      · wp_walk using q1
        exact ⟨_, rfl, h⟩
      · wp_walk using q1
        exact ⟨_, rfl, h⟩
    · wp_walk using q1
      exact ⟨_, rfl, h⟩
theorem call_enum1 {prog : Program} {w : World} {A : Around} {E : Value → Shared → Prop} {s : Shared} {v : Value} {o : Obj} {H : Heap → Prop} {Q : Value → Shared → Prop} (B : Begins v o H) (h1 : H s.heap)
    (h : ∀ h', IsEnum h' (s.heap.objs.size + 1) s.heap.objs.size 0 .none → h'.get? s.heap.objs.size = some o → h'.objs.size = s.heap.objs.size + 2 →
      (∀ b o, s.heap.get? b = some o → h'.get? b = some o) → Q (.ref (s.heap.objs.size + 1)) { s with heap := h' }) :
    wpAny (model prog w) A (call (.type "enumerate") [v]) Q E s := by
  refine callType_new F.called_enumerate (by decide) (F.typeCall_enumerate_1 _) (F.newCall_enumerate_1 _) (fun obj => F.args_object_init_2 obj _) F.entry_enumerate_new
    (meets_enum1 B) ⟨h1, ?_⟩
  have hz : (s.heap.push o).objs.size = s.heap.objs.size + 1 := Heap.size_push ..
  show _ ∧ _
  rw [hz]
  have he : IsEnum ((s.heap.push o).push { cls := .type "enumerate", data := .fields #[.none, .bool false, .ref s.heap.objs.size, rawInt 0, .none, .none] }) (s.heap.objs.size + 1) s.heap.objs.size 0 .none := by
    have := Heap.get?_push_size (s.heap.push o) (o := { cls := .type "enumerate", data := .fields #[.none, .bool false, .ref s.heap.objs.size, rawInt 0, .none, .none] }) rfl
    rw [hz] at this; exact this
  refine ⟨⟨_, he, rfl⟩, h _ he (Heap.get?_push_of_some _ (Heap.get?_push_size _ B.free)) (by rw [Heap.size_push, hz]) fun b o x => Heap.get?_push_of_some _ (Heap.get?_push_of_some _ x)⟩
/-- the tuple at a, each item in a new pair -/
def Itet (K : PySem.W.Frag) (a : Addr) : It :=
  ⟨fun i H => ∃ (xs : List V) (x : V), SqT K H a xs ∧ xs[i]? = some x, fun i H v H' => ∃ T x, v = .ref T ∧ H T = none ∧ H' = upd H T (.tup [.int (i : Nat), x]) ∧ ∀ xs, SqT K H a xs → xs[i]? = some x, fun i H => ∃ xs : List V, SqT K H a xs ∧ xs.length = i⟩
theorem turn_enumT {P : Program} {w : World} {K : PySem.W.Frag} {elts : List Expr} {kk : Nat} {tpos : Pos} (a e it : Addr) :
    Turn P w K (.Tuple elts kk tpos) (Itet K a) [e, it] e (fun i h => (∃ old, IsEnum h e it ((i : Nat) : Int) old) ∧ h.IsTupleIter it a i ∧ e ≠ it ∧ a ≠ it ∧ e ≠ a) where
  mem := by simp
  obj := fun i h st b hb => by
    obtain ⟨⟨old, he⟩, ⟨o, ho, hc, hd⟩, _⟩ := st
    have e' : b = e ∨ b = it := by simpa using hb
    rcases e' with z | z
    · rw [z]; exact ⟨_, he, fun v q => nomatch q⟩
    · rw [z]; exact ⟨o, ho, fun v q => by rw [hd] at q; cases q⟩
  keep := fun i h h' st k => let ⟨⟨old, he⟩, hi, hne⟩ := st; ⟨⟨old, k e (by simp) _ he⟩, hi.at fun o q => k it (by simp) o q, hne⟩
  item := by
    intro X hP hw hK hc i pins s σ H E I hf st hg
    subst hP hw hK
    obtain ⟨⟨old, he⟩, hit, hne, hai, hea⟩ := st
    obtain ⟨xs, x, hq, hx⟩ := hg
    obtain ⟨its, rv, p, hz⟩ := I.tuple hq
    obtain ⟨u, hu, ru⟩ := rv.get hx
    have hel : e < s.heap.objs.size := Heap.lt_size he
    have hil : it < s.heap.objs.size := by obtain ⟨_, q, _⟩ := hit; exact Heap.lt_size q
    have p' : s.heap.IsTuple a its.toArray := p
    have hlt : i < its.toArray.size := by
      have := (List.getElem?_eq_some_iff.mp hu).1
      simpa using this
    refine wpAny_pyNext_enum_itemD (Draws.tuple (A := X.A.in1) (I.ok.hd hc) it a hai its.toArray) he ⟨hit, p'⟩ hlt hne (by simp [hne, hea]) fun u' h' tk hP' ho st' hT hsz hk => ?_
    have eu : u' = u := by
      rw [show its.toArray[i]? = its[i]? by simp] at hP'
      rw [hu] at hP'; exact (Option.some.inj hP').symm
    subst eu
    refine ⟨_, rfl, wpAny_letOwnedTupleGo_enum (s := { s with heap := h', toks := tk + 1 }) ho fun h'' he' sb => ?_⟩
    have hT2 : h''.get? s.heap.objs.size = some { cls := .type "tuple", data := .seq #[.int i tk, u'] } := (sb.2 _ (Nat.ne_of_gt hel)).trans hT
    have new : ObjOk X.prog X.w (upd H s.heap.objs.size (.tup [.int (i : Nat), x])) h'' s.heap.objs.size (.tup [.int (i : Nat), x]) :=
      ⟨by show 2 ≤ sizeLine; decide, [.int i tk, u'], .cons ⟨_, rfl⟩ (.cons ru .nil), ⟨_, hT2, rfl, _, rfl⟩⟩
    have I1 : Inv X pins σ (upd H s.heap.objs.size (.tup [.int (i : Nat), x])) { s with heap := h'', toks := tk + 1 } :=
      I.turnedNew (ch := [e, it]) (fun b ob hb q => (sb.2 b (fun z => hb (by simp [z]))).trans (hk b ob (fun z => hb (by simp [z])) (fun z => hb (by simp [z])) q)) hf (Nat.le_refl _) new
    refine ⟨.ref s.heap.objs.size, _, I1, rfl, ⟨_, x, rfl, I.hok.fresh (Nat.le_refl _), rfl, fun ys hy => by rw [I.tuple_inj hy hq]; exact hx⟩, ⟨⟨u', ?_⟩, st'.1.at fun o q => (sb.2 it (Ne.symm hne)).trans q, hne, hai, hea⟩, fun b hb => ?_⟩
    · have e1 : ((i + 1 : Nat) : Int) = (i : Int) + 1 := by omega
      rw [e1]; exact he'
    · have hb' : b < s.heap.objs.size := by
        have e' : b = e ∨ b = it := by simpa using hb
        rcases e' with z | z
        · rw [z]; exact hel
        · rw [z]; exact hil
      rw [upd_ne (Nat.ne_of_lt hb')]
      exact (hf b hb).1
  done := by
    intro X hP hw hK hc i pins s σ H E I hf st hg
    subst hP hw hK
    obtain ⟨⟨old, he⟩, hit, hne, hai, hea⟩ := st
    obtain ⟨xs, hq, hx⟩ := hg
    obtain ⟨its, rv, p, hz⟩ := I.tuple hq
    obtain ⟨f0, f1, f2, f3, f4, f5⟩ := hf it (by simp)
    have hl := rv.length
    have p' : s.heap.IsTuple a its.toArray := p
    have hi : its.toArray.size = i := by simp; omega
    exact wpAny_pyNext_enum_endD (n := its.toArray.size) (Draws.tuple (A := X.A.in1) (I.ok.hd hc) it a hai its.toArray) he ⟨hi ▸ hit, p'⟩ fun h' eb => ⟨rfl, I.turned (t' := s.toks) (fun b o hb q => eb b o hb q) f0 f1 f3 f4 f5⟩
  self := fun A i s Q E st h => let ⟨⟨_, he⟩, _⟩ := st; wpAny_pyIter_enum he h
def iEnumT (K : PySem.W.Frag) (ta : TA) : TI := fun σ H R => ta σ H fun vs H1 => ∃ a xs, vs = [.ref a] ∧ SqT K H1 a xs ∧ R (Itet K a) H1
theorem pi_enumT {X : Cx} {e : Expr} {ta : TA} {p pos tpos : Pos} {elts : List Expr} {kk : Nat} (hg : Gl X "enumerate") (hm : X.mg "enumerate" = none) (ha : PA X [e] ta) (hs : starEach [e] X.env = [(false, eval e X.env)] := by rfl) :
    PI X (.Tuple elts kk tpos) (.Call (.Name "enumerate" p) [e] [] pos) (iEnumT X.K ta) := by
  refine ⟨fun pins s σ H R I h => ?_⟩
  refine Call_ (ld_blt I hg hm boot_enumerate (PyProof.Rows.callWith_type1 (thn (ha.run pos pins s σ H _ I h) fun us s1 ⟨vs, H1, I1, r1, q1⟩ => ?_) hs rfl))
  obtain ⟨a, xs, ex, hq, q⟩ := q1
  subst ex
  cases r1 with
  | cons r rr =>
    cases rr
    cases r
    obtain ⟨its, rv, p', hz⟩ := I1.tuple hq
    have p2 : s1.heap.IsTuple a its.toArray := p'
    have hal : a < s1.heap.objs.size := by obtain ⟨_, q, _⟩ := p2; exact Heap.lt_size q
    refine call_enum1 (begins_tuple a its.toArray) p2 fun h' he hit hsz hk => wpAny_pyIter_enum he ?_
    have I2 : Inv X pins σ H1 { s1 with heap := h' } := I1.kept (t' := s1.toks) hk
    refine ⟨s1.heap.objs.size + 1, [s1.heap.objs.size + 1, s1.heap.objs.size], _, _, H1, rfl, I2, turn_enumT a (s1.heap.objs.size + 1) s1.heap.objs.size, ⟨⟨.none, he⟩, ⟨_, hit, rfl, rfl⟩, Nat.succ_ne_self _, Nat.ne_of_lt hal, Nat.ne_of_gt (Nat.lt_succ_of_lt hal)⟩, fun b hb => ?_, q⟩
    have e' : b = s1.heap.objs.size + 1 ∨ b = s1.heap.objs.size := by simpa using hb
    have hle : s1.heap.objs.size ≤ b := by
      rcases e' with z | z
      · rw [z]; exact Nat.le_add_right _ _
      · rw [z]; exact Nat.le_refl _
    exact I1.fpOk hle (I1.hok.fresh hle)
theorem walk_enumT {K : PySem.W.Frag} {a : Addr} {xs : List V} : Walk (Itet K a) xs.length (fun H => SqT K H a xs) (YPair (fun i => some (.int (i : Nat))) (fun i => xs[i]?)) :=
  ⟨fun i H hi h => ⟨xs, xs[i], h, List.getElem?_eq_getElem hi⟩, fun H h => ⟨xs, h, rfl⟩, fun i H x H' hi h y => by
    obtain ⟨T, z, e1, e2, e3, e4⟩ := y
    exact ⟨T, .int (i : Nat), z, e1, e2, e3, rfl, e4 xs h⟩⟩
section
variable {c : Ct}
def pairUp (xs : List D) : List D := (List.range xs.length).zipWith (fun i x => .tuple [.int (i : Nat), x]) xs
theorem pairUp_at {xs : List D} {i : Nat} {x : D} (h : xs[i]? = some x) : (pairUp xs)[i]? = some (.tuple [.int (i : Nat), x]) := by
  unfold pairUp
  have hi : i < xs.length := (List.getElem?_eq_some_iff.mp h).1
  rw [List.getElem?_zipWith, List.getElem?_range hi, h]
@[simp] theorem pairUp_len (xs : List D) : (pairUp xs).length = xs.length := by unfold pairUp; simp
theorem walks_pair {K : PySem.W.Frag} {J : It} {Hf : Hp} {vs : List V} {xs : List D} (h : DpAll K Hf vs xs) (w : Walk J vs.length (fun H => Same Hf H) (YPair (fun i => some (.int (i : Nat))) (fun i => vs[i]?))) : Walks K J Hf (pairUp xs) := by
  refine ⟨_, by rw [pairUp_len, ← dpAll_len h]; exact w, fun i H x H' Hfi hi s1 s2 y => ?_⟩
  obtain ⟨T, a, b, rfl, e2, rfl, e4, e5⟩ := y
  cases e4
  obtain ⟨d, d1, d2⟩ := dpAll_getV h e5
  have hn : Hfi T = none := s2.free e2
  have g := upd_grow (o := .tup [V.int (i : Nat), b]) hn
  exact ⟨_, upd Hfi T (.tup [.int (i : Nat), b]), pairUp_at d1, Ext.laid s2 e2, .tup (.inl (.inl upd_same)) (.cons (.int _) (.cons (dp_mono g (dp_mono s1 d2)) .nil))⟩
def enumD (f : En → R SV) : En → R (List D) := fun ρ => f ρ >>= fun a => match a with
  | .d (.list xs) => .ok (pairUp xs)
  | .ol xs => .ok (pairUp xs)
  | .d (.tuple xs) => .ok (pairUp xs)
  | _ => .bad
abbrev iEnumA (K : PySem.W.Frag) (ta : TA) : TI := fun σ H Rr => iEnum K ta σ H Rr ∨ iEnumT K ta σ H Rr
theorem pi_enumA {X : Cx} {e : Expr} {ta : TA} {p pos tpos : Pos} {elts : List Expr} {kk : Nat} (hg : Gl X "enumerate") (hm : X.mg "enumerate" = none) (ha : PA X [e] ta) (hs : starEach [e] X.env = [(false, eval e X.env)] := by rfl) :
    PI X (.Tuple elts kk tpos) (.Call (.Name "enumerate" p) [e] [] pos) (iEnumA X.K ta) := Pl.PI.or (pi_enum hg hm ha hs) (pi_enumT hg hm ha hs)
theorem sem_enum {te : TE} {f : En → R SV} (h : SemE c true te f) : SemI c (iEnumA c.K (tCons te tNil)) (enumD f) := by
  intro B H0 Hf H σ ρ Rr I o
  have lists : ∀ (r : SV) (xs : List D), (r = .d (.list xs) ∨ r = .ol xs) → f ρ = .ok r → (∀ J Hf' H', Ext Hf H Hf' H' → Walks c.K J Hf' (pairUp xs) → Rr J H') → iEnumA c.K (tCons te tNil) σ H Rr := by
    intro r xs er ef k
    refine .inl (h B H0 Hf H σ ρ _ I ?_)
    rw [ef]
    intro v Hf1 H1 x1 q1 fr
    obtain ⟨Hf2, x2, q2⟩ := froze (d := .list xs) x1 q1 (fr rfl) (by rcases er with rfl | rfl <;> rfl)
    cases q2 with
    | lst s1 s2 => exact ⟨_, _, rfl, x2.i.seq s1, k _ Hf2 H1 x2 (walks_pair s2 (walk_enum.mono (fun H e => e.seq s1) fun _ _ _ _ _ _ y => y))⟩
  unfold enumD at o
  cases ef : f ρ with
  | bad => rw [ef] at o; exact o.elim
  | ex n as =>
    rw [ef] at o
    refine .inl (h B H0 Hf H σ ρ _ I ?_)
    rw [ef]; exact o
  | ok r =>
    rw [ef, ok_bind] at o
    split at o
    · exact lists _ _ (.inl rfl) ef o
    · exact lists _ _ (.inr rfl) ef o
    · refine .inr (h B H0 Hf H σ ρ _ I ?_)
      rw [ef]
      intro v Hf1 H1 x1 q1 fr
      cases q1 with
      | tup s1 s2 => exact ⟨_, _, rfl, sqT_mono x1.i s1, (show ∀ J Hf' H', Ext Hf H Hf' H' → Walks c.K J Hf' _ → Rr J H' from o) _ Hf1 H1 x1 (walks_pair s2 (walk_enumT.mono (fun H e => sqT_mono e s1) fun _ _ _ _ _ _ y => y))⟩
    · exact o.elim
/-! ### a written list, times -/
def repS (a b : SV) : R SV := match a, b with
  | .ol xs, .d (.int n) => if 0 ≤ n ∧ n ≤ 1000 ∧ xs.length ≤ 1000 then .ok (.ol (List.replicate n.toNat xs).flatten) else .bad
  | _, _ => .bad
theorem dpAll_rep {K : PySem.W.Frag} {H : Hp} {vs : List V} {ds : List D} (h : DpAll K H vs ds) : ∀ n : Nat, DpAll K H (List.replicate n vs).flatten (List.replicate n ds).flatten
  | 0 => .nil
  | n + 1 => by
    rw [List.replicate_succ, List.replicate_succ, List.flatten_cons, List.flatten_cons]
    exact dpAll_append h (dpAll_rep h n)
theorem r2_rep : R2ok c rRep repS := by
  intro Hf H x y rx ry Q i hx hy o
  unfold repS at o
  split at o
  rotate_left
  · exact o.elim
  rename_i xs n
  split at o
  rotate_left
  · exact o.elim
  rename_i hn
  cases hy
  obtain ⟨p, vs, rfl, h1, h2, h3⟩ := hx
  have hz := sizeLine_eq
  have hl := dpAll_len h3
  have hm : vs.length * n.toNat ≤ 1000 * 1000 := Nat.mul_le_mul (by omega) (by omega)
  exact ⟨p, n, vs, rfl, rfl, h1, by omega, by omega, by omega, fun q hq => GE.newL (show GE c true Hf H Q (.ol _) from o) i hq (dpAll_rep h3 _)⟩
end
end Pl
namespace Pl
open PySem PySem.Spec PyProof.Rows L2
/-! ### math.lcm -/
theorem lcm_le (m n : Nat) : m.lcm n ≤ m * n := by
  unfold Nat.lcm
  exact Nat.div_le_self _ _
theorem run_lcm {prog : Program} {w : World} {A : Around} {E : Value → Shared → Prop} {s : Shared} {Q : Value → Shared → Prop} {a b : Int} {t u : Tok} (ha : a.natAbs < 2 ^ 200) (hb : b.natAbs < 2 ^ 200) (h : Q (.int ((a.natAbs.lcm b.natAbs : Nat) : Int) s.toks) { s with toks := s.toks + 1 }) :
    wpAny (model prog w) A (call (.builtin "math.lcm") [.int a t, .int b u]) Q E s := by
  have h1 : (max 1 a.natAbs).log2 ≤ 199 := PySem.W.mg_log (by rw [Nat.max_lt]; exact ⟨by decide, ha⟩)
  have h2 : (max a.natAbs b.natAbs).log2 ≤ 199 := PySem.W.mg_log (by rw [Nat.max_lt]; exact ⟨ha, hb⟩)
  have e : Nat.lcm 1 a.natAbs = a.natAbs := PySem.W.mc_lcm_one _
  have hsz : (((((Nat.lcm 1 a.natAbs).lcm b.natAbs : Nat) : Int)).natAbs.log2 < bitsLine) := by
    rw [e]
    exact PySem.W.mc_size (k := 7) (Nat.le_trans (lcm_le _ _) (Nat.le_trans (Nat.mul_le_mul (Nat.le_of_lt ha) (Nat.le_of_lt hb)) (by
      rw [← Nat.pow_add]
      exact Nat.pow_le_pow_right (by decide) (by decide)))) (by decide)
  refine call_function_meets PySem.W.MGF.kind_lcm PySem.W.MGF.plain_lcm PySem.W.MGF.entry_lcm (PySem.W.MGF.args_lcm _ _) (PySem.W.mg_run_lcm a t b u (by omega) (by omega) hsz).meets ?_
  rw [e]; exact h
def rLcm : List V → Hp → VK → Prop := fun vs H Q => ∃ a b : Int, vs = [.int a, .int b] ∧ a.natAbs < 2 ^ 200 ∧ b.natAbs < 2 ^ 200 ∧ Q (.int ((Nat.lcm a.natAbs b.natAbs : Nat) : Int)) H
theorem cr_lcm {X : Cx} : CallR X (.builtin "math.lcm") rLcm := by
  intro pins s σ H vs us Q I r h
  obtain ⟨a, b, rfl, ha, hb, q⟩ := h
  obtain ⟨t, u, rfl⟩ := Vals.int2 r
  exact run_lcm ha hb ⟨.int _, H, I.tok _, ⟨_, rfl⟩, q⟩
section
variable {c : Ct}
def okB (j : Int) : Bool := Nat.blt j.natAbs 100000000000000000000000000000000000000000000000000
theorem okB_of {j : Int} (h : j.natAbs < 100000000000000000000000000000000000000000000000000) : okB j = true := by
  unfold okB; rw [Nat.blt_eq]; exact h
def lcmS : List SV → R SV
  | [.d (.int a), .d (.int b)] => if okB a = true ∧ okB b = true then .ok (.d (.int ((Nat.lcm a.natAbs b.natAbs : Nat) : Int))) else .bad
  | _ => .bad
theorem okB_nat {j : Int} (h : okB j = true) : j.natAbs < 2 ^ 200 := Nat.lt_trans (of_decide_eq_true (by unfold okB at h; rw [Nat.blt_eq] at h; exact decide_eq_true h)) (by decide)
theorem c1_lcm : C1ok c rLcm lcmS := by
  intro Hf H vs rs Q i hr o
  unfold lcmS at o
  split at o
  rotate_left
  · exact o.elim
  rename_i a b
  split at o
  rotate_left
  · exact o.elim
  rename_i hk
  cases hr with
  | cons h1 h2 =>
    cases h2 with
    | cons h2 h3 =>
      cases h3; cases h1; cases h2
      exact ⟨a, b, rfl, okB_nat hk.1, okB_nat hk.2, GE.now (show GE c true Hf H Q (.d _) from o) i (.int _)⟩
end
end Pl
/-! PlB: own exceptions: raise C(), try with one statement, isinstance of a caught error. -/
namespace L2
open PySem PySem.Spec PyProof.Rows
/-- C() of an own class without own __init__ -/
theorem pmk_own0 {X : Cx} {C : Addr} {bmB : List Value} {B newId initId : String} {x : Str} {p pos : Pos} (F : ExcBaseFacts B newId initId bmB) (q : PySem.W.excIn X.K C bmB newId = true) (gC : X.mg x = some (.ref C)) (kC : PySem.W.keepIn X.K (.ref C) = true) (r : Raises X (.ref C)) (hg : Gl X x)
    (hdb : (x == ("__debug__" : Str)) = false := by decide) : PMk X (.Call (.Name x p) [] [] pos) (fun _ H Q => Q (.ref C) none H) := by
  intro pins s σ H Q I h
  refine wpAny_Call_Name_kw (ld_glob I hg gC ?_ hdb)
  refine PySem.W.callWith_K0 I.kIn kC ?_
  obtain ⟨bm, N, nm, qn, bs, hdct, sn, sub, ab, col, dd, k0, k1, k2, k3, k5, mN, hC, hN, hni, T⟩ := exc_obj I.kIn q
  exact wpAny_call_exc_subT F T hC hN hni (fun h' e hm => mk_of I hm r h (I.hok.gone hm.new)) (Nat.zero_le _)
/-- isinstance(e, c), e the exception that the suite holds, of a class with no fields of its own -/
def rIsX (K : PySem.W.Frag) (cls : Value) (d : Option Addr) (a : Addr) : List V → Hp → VK → Prop := fun xs H Q => ∃ (D : Addr) (c : V) (cv : Value) (b : Bool), cls = .ref D ∧ d = none ∧ ExcC K D ∧ xs = [.ref a, c] ∧ (∀ u, RelV c u → u = cv) ∧ PySem.W.kitOne K (.ref D) cv = some b ∧ Q (.bl b) H
theorem call_isX {X : Cx} {a : Addr} {cls : Value} {d : Option Addr} {oe : Obj} {pn : List (Addr × Obj)} (hz : Zc cls d oe) (hf : ∃ vs, oe.data = .fields vs) : CallR (X.suite a ((a, oe) :: pn)) (.builtin "isinstance") (rIsX X.K cls d a) := by
  intro pins s σ H xs us Q I r h
  obtain ⟨D, c, cv, b, rfl, rfl, C, rfl, hcv, e, q⟩ := h
  exact call_isE C hz hf pins s σ H _ us Q I r ⟨c, cv, b, rfl, hcv, e, q⟩
end L2
namespace Pl
open PySem PySem.Spec PyProof.Rows L2
/-! ### the readings by name -/
def tTryAs (K : PySem.W.Frag) (cl : Value) (i : Nat) (tb : WX → TS) (ts : Addr → Value → Option Addr → TS) (Wout : WX) : TS := fun D σ H => tb (wAs K cl i ts Wout D) D σ H
def tTryOn (K : PySem.W.Frag) (cl : Value) (tb : WX → TS) (ts : Addr → Value → Option Addr → TS) (Wout : WX) : TS := fun D σ H => tb (wOnly K cl ts Wout D) D σ H
def tRaise (C : Addr) (E : XK) : TS := fun _ _ H => E (.ref C) none H
def tCallE (sp : Sp) (E : XK) (t : TA) : TE := fun σ H Q => t σ H fun vs H1 => sp vs H1 Q E
def tIsE (K : PySem.W.Frag) (i : Nat) (C a : Addr) (cls : Value) (d : Option Addr) : TE := tCB (rIsX K cls d a) (tCons (tVar i) (tCons (tC (.ref C)) tNil))
/-! ### a def that may raise -/
section
variable {P : Program} {w : World} {K : PySem.W.Frag} {mg : Str → Option Value} {base : Heap}
theorem mk_okX {x qual : Str} {st : Stmt} {f : Addr} {fd : FuncData} {N ps : List Str} {k : Nat} {cm : Nat → Addr × List Str} {b : En → R Fl} (F : Fun K x qual st f fd) (S : FnScope N ps (defScope st))
    (hb : ∀ (cdv : Value) (A : Around) (outer : List Env) (s : Shared) (H : Hp) (E : XK), Room k (A.deeper (envOfC qual (defScope st) s.heap.objs.size f cdv)) →
      ∃ t, PSs (cxOf (L2.CX P w) P w K mg base N qual (defScope st) f cdv A outer s H E) (defBody st) t ∧ ∀ ex : Exi, SemS ⟨⟨K, ex, w⟩, cm, E⟩ t b) :
    FnOk P w K mg base (L2.CX P w) (k + 1) f fd ps (spF w K cm ps.length (runB ps.length N.length b)) := by
  refine F.okX S (fun vs H Q E h => h.1) fun cdv A outer s H vs Q E hr h => ?_
  obtain ⟨t, h1, h2⟩ := hb cdv A outer s H E hr
  exact ⟨t, h1, body_ok (ps := ps) h2 h⟩
/-- what a callee lets out, this def lets out -/
theorem passX {N : List Str} {qual : Str} {sc : Scope} {f : Addr} {cdv : Value} {A : Around} {outer : List Env} {s : Shared} {H : Hp} {E : XK} : Passes (L2.CX P w) (cxOf (L2.CX P w) P w K mg base N qual sc f cdv A outer s H E) E :=
  passes_call (takes_of rfl rfl rfl rfl) fun _ _ _ _ h => h
end
/-- a class of exceptions of the text: n is its number -/
structure Xc (K : PySem.W.Frag) (mg : Str → Option Value) (x : Str) (C : Addr) : Prop where
  g : mg x = some (.ref C)
  e : PySem.W.excIn K C [.type "ValueError", .type "Exception", .type "BaseException", .type "object"] "ValueError.__new__" = true
  k : PySem.W.keepIn K (.ref C) = true
  b : PySem.W.subIn K (.ref C) (.type "BaseException") = some true
  t : PySem.W.typeIn K (.ref C) = some (.type "type")
section
variable {c : Ct}
/-! ### raise -/
def raiseS (n : Nat) : En → R Fl := fun _ => .ex n []
theorem sem_raise {n : Nat} {C : Addr} (hC : c.cm n = (C, [])) : SemS c (fun _ _ H => c.E (.ref C) none H) (raiseS n) := by
  intro B H0 Hf H σ ρ Dn I o
  have z := (show ExW c B.h H0 n [] from o) Hf H none I.ext ⟨rfl, by rw [hC]⟩
  rw [hC] at z
  exact z
/-! ### try -/
def SV.plain : SV → Bool
  | .d _ => true
  | _ => false
/-- the slots without what this frame owns -/
def bareE (ρ : En) : En := ρ.map fun s => match s with
  | some (.d x) => some (.d x)
  | some (.so C fs) => some (.so C fs)
  | _ => none
theorem bareE_get {ρ : En} {i : Nat} {s : SV} (e : (bareE ρ)[i]? = some (some s)) : ρ[i]? = some (some s) ∧ s.own = false ∧ ((∃ x, s = .d x) ∨ ∃ C fs, s = .so C fs) := by
  unfold bareE at e
  rw [List.getElem?_map] at e
  cases h : ρ[i]? with
  | none => rw [h] at e; cases e
  | some r =>
    rw [h] at e
    cases r with
    | none => cases e
    | some r =>
      cases r with
      | d x => cases e; exact ⟨rfl, rfl, .inl ⟨x, rfl⟩⟩
      | so C fs => cases e; exact ⟨rfl, rfl, .inr ⟨C, fs, rfl⟩⟩
      | ol _ => cases e
      | od _ => cases e
      | pin _ => cases e
      | exn _ _ => cases e
      | pd _ => cases e
      | kd _ => cases e
      | sk _ => cases e
      | sd _ => cases e
      | oi _ _ => cases e
      | rw _ _ _ _ => cases e
theorem EnvOk.bareE {K K' : Kx} {B : Bs} {H0 Hf H : Hp} {σ : L2.St} {ρ : En} (hk : K'.k = K.k) (I : EnvOk K B H0 Hf H σ ρ) : EnvOk K' ⟨Hf, fun _ => .non⟩ H Hf H σ (bareE ρ) := by
  refine ⟨.refl I.i, by rw [I.len]; simp [Pl.bareE], fun i s e => ?_, fun i s p e o => ?_, fun i j si sj p e o => ?_, fun i xs e => ?_⟩
  · obtain ⟨h, _, q⟩ := bareE_get e
    obtain ⟨v, h1, h2⟩ := I.sl i _ h
    rcases q with ⟨x, rfl⟩ | ⟨C, fs, rfl⟩
    · exact ⟨v, h1, by show Dp K'.k Hf v x; rw [hk]; exact h2⟩
    · obtain ⟨p, dx, us, y1, y2, y3⟩ := h2
      refine ⟨v, h1, p, dx, us, y1, ?_, ?_⟩
      · rw [hk]; exact y2
      · rw [hk]; exact y3
  · obtain ⟨_, z, _⟩ := bareE_get e; rw [z] at o; cases o
  · obtain ⟨_, z, _⟩ := bareE_get e; rw [z] at o; cases o
  · obtain ⟨_, _, q⟩ := bareE_get e; rcases q with ⟨x, z⟩ | ⟨C, fs, z⟩ <;> cases z
def noPin (ρ : En) : Bool := ρ.all fun s => match s with
  | some r => r.npin
  | none => true
theorem noPin_get {ρ : En} (h : noPin ρ = true) {i : Nat} {s : SV} (e : ρ[i]? = some (some s)) : s.npin = true :=
  List.all_eq_true.mp h _ (List.mem_of_getElem? e)
/-- what may leave a try -/
def fenceF : Fl → R Fl
  | .nx ρ => if noPin ρ = true then .ok (.nx ρ) else .bad
  | .rt r => if r.npin = true then .ok (.rt r) else .bad
  | _ => .bad
/-- .. and its suite: the error's name goes -/
def outF (i : Nat) : Fl → R Fl
  | .nx ρ => fenceF (.nx (ρ.set i none))
  | z => fenceF z
/-- try: b except C as n: h; n in slot i; hit: which errors are caught -/
def tryAs (i : Nat) (hit : Nat → Bool) (b h : En → R Fl) : En → R Fl := fun ρ => match b (bareE ρ) with
  | .ok fl => fenceF fl
  | .bad => .bad
  | .ex n as => if hit n = true then (h ((bareE ρ).set i (some (.exn n as))) >>= outF i) else .bad
/-- try: b except C: h -/
def tryOn (hit : Nat → Bool) (b h : En → R Fl) : En → R Fl := fun ρ => match b (bareE ρ) with
  | .ok fl => fenceF fl
  | .bad => .bad
  | .ex n as => if hit n = true then (h (bareE ρ) >>= fenceF) else .bad
theorem RepR.swap {K K' : Kx} (hk : K'.k = K.k) (hw : K'.w = K.w) {Hf H : Hp} {v : V} : ∀ {r : SV}, r.npin = true → RepR K' Hf H v r → RepR K Hf H v r
  | .d x, _, h => by have h' : Dp K'.k Hf v x := h; rw [hk] at h'; exact h'
  | .ol xs, _, h => by
    obtain ⟨p, vs, e, h1, h2, h3⟩ := h
    rw [hk] at h3
    exact ⟨p, vs, e, h1, h2, h3⟩
  | .od xs, _, h => by
    obtain ⟨p, vs, e, h1, h2, h3⟩ := h
    rw [hk] at h3
    exact ⟨p, vs, e, h1, h2, h3⟩
  | .pin _, z, _ => by cases z
  | .exn _ _, z, _ => by cases z
  | .pd _, z, _ => by cases z
  | .kd xs, _, h => by
    obtain ⟨p, ep, vs, e, h1, h2, h3⟩ := h
    rw [hk] at h3
    rw [hw] at h1
    exact ⟨p, ep, vs, e, h1, h2, h3⟩
  | .sk xs, _, h => by
    obtain ⟨p, ep, vs, e, h1, h3⟩ := h
    rw [hk] at h3
    rw [hw] at h1
    exact ⟨p, ep, vs, e, h1, h3⟩
  | .sd xs, _, h => by
    obtain ⟨p, vs, e, h1, h3⟩ := h
    rw [hk] at h3
    exact ⟨p, vs, e, h1, h3⟩
  | .so C xs, _, h => by
    obtain ⟨p, dx, vs, e, h1, h3⟩ := h
    rw [hk] at h3 h1
    exact ⟨p, dx, vs, e, h1, h3⟩
  | .rw b C fs xs, _, h => by
    have h' : RwR K'.k Hf v b C fs xs := h
    rw [hk] at h'
    exact h'
  | .oi C xs, z, _ => by cases z
theorem EnvOk.swap {K K' : Kx} (hk : K'.k = K.k) (hw : K'.w = K.w) {B : Bs} {H0 Hf H Hf2 H2 : Hp} {σ : L2.St} {ρ : En} (x : Ext B.h H0 Hf H) (np : noPin ρ = true) (I : EnvOk K' ⟨Hf, fun _ => .non⟩ H Hf2 H2 σ ρ) : EnvOk K B H0 Hf2 H2 σ ρ :=
  ⟨x.trans I.ext, I.len, fun i r e => let ⟨v, h1, h2⟩ := I.sl i r e; ⟨v, h1, h2.swap hk hw (noPin_get np e)⟩, fun i s p e z q => x.h.free (I.new i s p e z q), I.sep, fun i xs e => by cases noPin_get np e⟩
theorem GS.fenced {c c' : Ct} (hk : c'.K.k = c.K.k) (hw : c'.K.w = c.K.w) {B : Bs} {H0 Hf H : Hp} {Dn : Ends} (x : Ext B.h H0 Hf H) : ∀ {fl : Fl}, Out c B.h H0 (fenceF fl) (GS c B H0 Dn) → GS c' ⟨Hf, fun _ => .non⟩ H Dn fl
  | .nx ρ, o => by
    have o' : Out c B.h H0 (if noPin ρ = true then R.ok (Fl.nx ρ) else R.bad) (GS c B H0 Dn) := o
    cases np : noPin ρ with
    | false => rw [np] at o'; exact o'.elim
    | true =>
      rw [np] at o'
      intro Hf2 H2 σ2 I
      exact (show GS c B H0 Dn (.nx ρ) from o') Hf2 H2 σ2 (I.swap hk hw x np)
  | .rt r, o => by
    have o' : Out c B.h H0 (if r.npin = true then R.ok (Fl.rt r) else R.bad) (GS c B H0 Dn) := o
    cases np : r.npin with
    | false => rw [np] at o'; exact o'.elim
    | true =>
      rw [np] at o'
      exact fun v Hf2 H2 y q fr => (show GS c B H0 Dn (.rt r) from o') v Hf2 H2 (x.trans y) (q.swap hk hw np) fun z p e => x.h.free (fr z p e)
  | .bk _, o => o.elim
  | .ct _, o => o.elim
/-- the ends of the suite -/
abbrev endsA (i : Nat) (D : Ends) : Ends := { nx := fun σ' H' => D.nx (σ'.set i none) H', rt := D.rt, bk := fun σ' H' => D.bk (σ'.set i none) H', ct := fun σ' H' => D.ct (σ'.set i none) H' }
theorem EnvOk.goes {K : Kx} {B : Bs} {H0 Hf H : Hp} {σ : L2.St} {ρ : En} (i : Nat) (I : EnvOk K B H0 Hf H σ ρ) : EnvOk K B H0 Hf H (σ.set i none) (ρ.set i none) := by
  have ne : ∀ {j : Nat} {s : SV}, (ρ.set i none)[j]? = some (some s) → j ≠ i ∧ ρ[j]? = some (some s) := fun {j s} e => by
    rcases set_get e with ⟨_, e, _⟩ | ⟨hj, e⟩
    · cases e
    · exact ⟨hj, e⟩
  have at_ : ∀ {j : Nat} {s : SV}, (ρ.set i none)[j]? = some (some s) → (σ.set i none)[j]? = σ[j]? := fun {j s} e => List.getElem?_set_ne (Ne.symm (ne e).1)
  refine ⟨I.ext, by rw [List.length_set, List.length_set, I.len], fun j s e => ?_, fun j s p e o es => ?_, fun j k sj sk p ej oj ek ok e1 e2 => ?_, fun j xs e => ?_⟩
  · rw [at_ e]; exact I.sl j s (ne e).2
  · rw [at_ e] at es; exact I.new j s p (ne e).2 o es
  · rw [at_ ej] at e1; rw [at_ ek] at e2; exact I.sep j k sj sk p (ne ej).2 oj (ne ek).2 ok e1 e2
  · rw [at_ e]; exact I.pin j xs (ne e).2
/-- the error's name is set -/
theorem EnvOk.held {K : Kx} {B : Bs} {H0 Hf H : Hp} {σ : L2.St} {ρ : En} {i : Nat} {v : V} {n : Nat} {as : List D} (I : EnvOk K B H0 Hf H σ ρ) (q : RepR K Hf H v (.exn n as)) : EnvOk K B H0 Hf H (σ.set i (some v)) (ρ.set i (some (.exn n as))) := by
  refine ⟨I.ext, by rw [List.length_set, List.length_set, I.len], fun j s e => ?_, fun j s p e o es => ?_, fun j k sj sk p ej oj ek ok e1 e2 => ?_, fun j xs e => ?_⟩
  · rcases set_get e with ⟨rfl, e, hl⟩ | ⟨hj, e⟩
    · cases e
      exact ⟨v, List.getElem?_set_self (by rw [I.len]; exact hl), q⟩
    · rw [List.getElem?_set_ne (Ne.symm hj)]; exact I.sl j s e
  · rcases set_get e with ⟨rfl, e, hl⟩ | ⟨hj, e⟩
    · cases e; cases o
    · rw [List.getElem?_set_ne (Ne.symm hj)] at es; exact I.new j s p e o es
  · rcases set_get ej with ⟨rfl, ej, hl⟩ | ⟨hj, ej⟩
    · cases ej; cases oj
    · rcases set_get ek with ⟨rfl, ek, hl⟩ | ⟨hk, ek⟩
      · cases ek; cases ok
      · rw [List.getElem?_set_ne (Ne.symm hj)] at e1
        rw [List.getElem?_set_ne (Ne.symm hk)] at e2
        exact I.sep j k sj sk p ej oj ek ok e1 e2
  · rcases set_get e with ⟨rfl, e, hl⟩ | ⟨hj, e⟩
    · cases e
    · rw [List.getElem?_set_ne (Ne.symm hj)]; exact I.pin j xs e
abbrev exiOf (c : Ct) (n : Nat) (a : Addr) (od : Option Addr) : Ct := ⟨⟨c.K.k, ⟨n, a, od.map fun d => (d, (c.cm n).2)⟩, c.K.w⟩, c.cm, c.E⟩
theorem sem_tryAs {i : Nat} {hit : Nat → Bool} {tb : WX → TS} {tb0 : XK → TS} {ts : Addr → Value → Option Addr → TS} {b h : En → R Fl} {cl : Value} {Wout : WX}
    (hw : ∀ (W : WX) (D : Ends) (σ : L2.St) (H : Hp), tb0 (fun cls d H => W cls d σ H) D σ H → tb W D σ H)
    (hb : ∀ E' : XK, SemS ⟨c.K, c.cm, E'⟩ (tb0 E') b) (ht : ∀ n, hit n = true → PySem.W.exmOne c.K (.ref (c.cm n).1) cl = some true)
    (hh : ∀ n a od, hit n = true → ((c.cm n).2 = [] → od = none) → SemS (exiOf c n a od) (ts a (.ref (c.cm n).1) od) h) :
    SemS c (tTryAs c.K cl i tb ts Wout) (tryAs i hit b h) := by
  intro B H0 Hf H σ ρ Dn I o
  refine hw _ _ _ _ ?_
  refine hb _ ⟨Hf, fun _ => .non⟩ H Hf H σ (bareE ρ) Dn (I.bareE rfl) ?_
  unfold tryAs at o
  cases e : b (bareE ρ) with
  | bad => rw [e] at o; exact o.elim
  | ok fl => rw [e] at o; exact GS.fenced (c := c) rfl rfl I.ext o
  | ex n as =>
    rw [e] at o
    intro Hf2 H2 od x2 r2
    have hn : hit n = true := by
      cases z : hit n with
      | true => rfl
      | false => simp only [z] at o; exact o.elim
    simp only [hn, if_true] at o
    refine ⟨true, ht n hn, fun _ a ha => ?_, fun z => nomatch z⟩
    have hod : (c.cm n).2 = [] → od = none := fun z => by
      cases od with
      | none => rfl
      | some d => exact absurd z r2.1
    have has : ExFs (exiOf c n a od).K Hf2 H2 as := by
      cases od with
      | none => exact r2.1
      | some d => exact r2.2
    have J : EnvOk (exiOf c n a od).K ⟨Hf2, fun _ => .non⟩ H2 Hf2 H2 (σ.set i (some (.ref a))) ((bareE ρ).set i (some (.exn n as))) := by
      have J0 : EnvOk (exiOf c n a od).K ⟨Hf2, fun _ => .non⟩ H2 Hf2 H2 σ (bareE ρ) := by
        exact EnvOk.bareE (K := c.K) (K' := (exiOf c n a od).K) rfl (I.grow x2)
      exact J0.held ⟨rfl, rfl, has⟩
    have xx : Ext B.h H0 Hf2 H2 := I.ext.trans x2
    refine hh n a od hn hod ⟨Hf2, fun _ => .non⟩ H2 Hf2 H2 _ _ _ J ?_
    have o2 := (Out.bind (G1 := fun fl => Out c B.h H0 (outF i fl) (GS c B H0 Dn)) o fun fl _ o1 => o1)
    refine Out.mono (c := exiOf c n a od) (G := fun fl => Out c B.h H0 (outF i fl) (GS c B H0 Dn)) ?_ fun fl _ o1 => ?_
    · cases eh : h ((bareE ρ).set i (some (.exn n as))) with
      | ok fl => rw [eh] at o2; exact o2
      | bad => rw [eh] at o2; exact o2
      | ex m bs =>
        rw [eh] at o2
        exact fun Hf' H' od' y r => (show ExW c B.h H0 m bs from o2) Hf' H' od' (xx.trans y) r
    · cases fl with
      | nx ρ' =>
        intro Hf3 H3 σ3 I3
        exact GS.fenced (c := c) (c' := exiOf c n a od) rfl rfl xx (fl := .nx (ρ'.set i none)) o1 Hf3 H3 (σ3.set i none) (I3.goes i)
      | rt r =>
        have z : GS (exiOf c n a od) ⟨Hf2, fun _ => .non⟩ H2 Dn (.rt r) := GS.fenced (c := c) (c' := exiOf c n a od) rfl rfl xx (fl := .rt r) o1
        exact z
      | bk ρ' => exact o1.elim
      | ct ρ' => exact o1.elim
theorem sem_tryOn {hit : Nat → Bool} {tb : WX → TS} {tb0 : XK → TS} {ts : Addr → Value → Option Addr → TS} {b h : En → R Fl} {cl : Value} {Wout : WX}
    (hw : ∀ (W : WX) (D : Ends) (σ : L2.St) (H : Hp), tb0 (fun cls d H => W cls d σ H) D σ H → tb W D σ H)
    (hb : ∀ E' : XK, SemS ⟨c.K, c.cm, E'⟩ (tb0 E') b) (ht : ∀ n, hit n = true → PySem.W.exmOne c.K (.ref (c.cm n).1) cl = some true)
    (hh : ∀ a cls od, SemS c (ts a cls od) h) :
    SemS c (tTryOn c.K cl tb ts Wout) (tryOn hit b h) := by
  intro B H0 Hf H σ ρ Dn I o
  refine hw _ _ _ _ ?_
  refine hb _ ⟨Hf, fun _ => .non⟩ H Hf H σ (bareE ρ) Dn (I.bareE rfl) ?_
  unfold tryOn at o
  cases e : b (bareE ρ) with
  | bad => rw [e] at o; exact o.elim
  | ok fl => rw [e] at o; exact GS.fenced (c := c) rfl rfl I.ext o
  | ex n as =>
    rw [e] at o
    intro Hf2 H2 od x2 r2
    have hn : hit n = true := by
      cases z : hit n with
      | true => rfl
      | false => simp only [z] at o; exact o.elim
    simp only [hn, if_true] at o
    refine ⟨true, ht n hn, fun _ a ha => ?_, fun z => nomatch z⟩
    have xx : Ext B.h H0 Hf2 H2 := I.ext.trans x2
    refine hh a _ od ⟨Hf2, fun _ => .non⟩ H2 Hf2 H2 _ _ _ ((I.grow x2).bareE rfl) ?_
    have o2 := (Out.bind (G1 := fun fl => Out c B.h H0 (fenceF fl) (GS c B H0 Dn)) o fun fl _ o1 => o1)
    cases eh : h (bareE ρ) with
    | ok fl => rw [eh] at o2; exact GS.fenced (c := c) (c' := c) rfl rfl xx o2
    | bad => rw [eh] at o2; exact o2
    | ex m bs =>
      rw [eh] at o2
      exact fun Hf' H' od' y r => (show ExW c B.h H0 m bs from o2) Hf' H' od' (xx.trans y) r
/-! ### isinstance of the held error -/
def isE (i : Nat) (f : Nat → Bool) : En → R SV := fun ρ => match ρ[i]? with
  | some (some (.exn n _)) => .ok (.d (.bool (f n)))
  | _ => .bad
theorem sem_isE {i n : Nat} {a : Addr} {od : Option Addr} {C : Addr} {f : Nat → Bool} {bl : Bool} (hod : od = none) (hx : ExcC c.K.k (c.cm n).1) (hk : PySem.W.kitOne c.K.k (.ref (c.cm n).1) (.ref C) = some (f n)) :
    SemE (exiOf c n a od) bl (tIsE c.K.k i C a (.ref (c.cm n).1) od) (isE i f) := by
  intro B H0 Hf H σ ρ Q I o
  unfold isE at o
  split at o
  rotate_left
  · exact o.elim
  rename_i m as e
  obtain ⟨v, h1, h2, h3, _⟩ := I.sl i _ e
  have h2' : m = n := h2
  subst h2'
  refine ⟨v, h1, (c.cm m).1, .ref C, .ref C, f m, rfl, hod, hx, by rw [h3], fun u r => ?_, hk, ?_⟩
  · cases r; rfl
  · exact GE.now o I.i (.bl _)
end
end Pl
namespace Pl
open PySem PySem.Spec PyProof.Rows L2
section
variable {X : Cx} {x n : Str} {c : Value} {i : Nat} {body suite : List Stmt} {b₀ : Stmt} {np pos pos' : Pos} {tb : WX → TS} {ts : Addr → Value → Option Addr → TS} {Wout : WX}
theorem ps_tryAs (hs : X.stack = X.env :: X.outer) (hf : X.env.frame = some X.env.locals) (hN : X.N.Nodup) (hi : X.N[i]? = some n) (hln : X.env.kindOf n = some .local) (hc : Names X x c) (tk : Takes X Wout)
    (hb : ∀ (W : WX) (pn : List (Addr × Obj)) (xe : Value → Shared → Prop), Takes (X.tr pn xe) W → PassesOwn (model X.prog X.w) X.A X.env xe → PSs (X.tr pn xe) body (tb W))
    (hsu : ∀ (a : Addr) (oe : Obj) (cls : Value) (d : Option Addr) (pn : List (Addr × Obj)), Zc cls d oe → (∃ vs, oe.data = .fields vs) → PSs (X.suite a ((a, oe) :: pn)) (b₀ :: suite) (ts a cls d)) :
    PS X (.Try body [.ExceptHandler (some (.Name x np)) (some n) (b₀ :: suite) pos'] [] [] pos) (tTryAs X.K c i tb ts Wout) := ps_try_as hs hf hN hi hln hc tk hb hsu
theorem ps_tryOn (hs : X.stack = X.env :: X.outer) (hf : X.env.frame = some X.env.locals) (hc : Names X x c) (tk : Takes X Wout)
    (hb : ∀ (W : WX) (pn : List (Addr × Obj)) (xe : Value → Shared → Prop), Takes (X.tr pn xe) W → PassesOwn (model X.prog X.w) X.A X.env xe → PSs (X.tr pn xe) body (tb W))
    (hsu : ∀ (a : Addr) (oe : Obj) (cls : Value) (d : Option Addr) (pn : List (Addr × Obj)), Zc cls d oe → (∃ vs, oe.data = .fields vs) → PSs (X.suite a ((a, oe) :: pn)) (b₀ :: suite) (ts a cls d)) :
    PS X (.Try body [.ExceptHandler (some (.Name x np)) none (b₀ :: suite) pos'] [] [] pos) (tTryOn X.K c tb ts Wout) := ps_try_only hs hf hc tk hb hsu
end
section
variable {P : Program} {w : World} {K : PySem.W.Frag} {mg : Str → Option Value} {base : Heap} {N : List Str} {qual : Str} {sc : Scope} {f : Addr} {cdv : Value} {A : Around} {outer : List Env} {s : Shared} {H : Hp} {E : XK} {C : Addr} {x : Str} {p pos pos2 : Pos}
/-- raise C() in a def that lets it out -/
theorem ps_raise0 (z : Xc K mg x C) (hg : Gl (cxOf (L2.CX P w) P w K mg base N qual sc f cdv A outer s H E) x) (hdb : (x == ("__debug__" : Str)) = false := by decide) :
    PS (cxOf (L2.CX P w) P w K mg base N qual sc f cdv A outer s H E) (.Raise (some (.Call (.Name x p) [] [] pos)) none pos2) (tRaise C E) :=
  ps_raise rfl (takes_of rfl rfl rfl rfl) (pmk_own0 PySem.F.excBase_ValueError z.e z.g z.k (raises_own z.b z.t) hg hdb)
theorem ps_raise1 {m : Str} {j : Nat} {p2 : Pos} (z : Xc K mg x C) (hg : Gl (cxOf (L2.CX P w) P w K mg base N qual sc f cdv A outer s H E) x) (hdb : (x == ("__debug__" : Str)) = false := by decide) :
    PS (cxOf (L2.CX P w) P w K mg base N qual sc f cdv A outer s H E) (.Raise (some (.Call (.Name x p) [.Constant (.str m) j p2] [] pos)) none pos2) (tRaise C E) :=
  ps_raise rfl (takes_of rfl rfl rfl rfl) (pmk_own PySem.F.excBase_ValueError z.e z.g z.k (raises_own z.b z.t) hg hdb)
end
section
variable {c : Ct}
theorem sem_raise' {n : Nat} {C : Addr} (hC : c.cm n = (C, [])) : SemS c (tRaise C c.E) (raiseS n) := sem_raise hC
theorem sem_callE {n : Nat} {g : List D → R SV} {t : TA} {f : En → R (List D)} (h : SemA c t f) : SemE c true (tCallE (spF c.K.w c.K c.cm n g) c.E t) (callF n g f) := by
  intro B H0 Hf H σ ρ Q I o
  refine h B H0 Hf H σ ρ _ I (Out.bind o fun ds eds o1 => fun vs Hf1 H1 x1 q1 => ?_)
  split at o1
  · rename_i hl
    exact ⟨by rw [dpAll_len q1]; exact hl, c.K.x, Hf1, ds, x1.i, q1, o1.grow x1 fun _ g => g.grow x1⟩
  · exact o1.elim
theorem pe_isE {X : Cx} {a : Addr} {cls : Value} {d : Option Addr} {oe : Obj} {pn : List (Addr × Obj)} {i : Nat} {x : Str} {C : Addr} {p p1 p2 p3 : Pos} {y : Str} (hz : Zc cls d oe) (hf : ∃ vs, oe.data = .fields vs) (hg : Gl X "isinstance") (hm : X.mg "isinstance" = none)
    (hv : bootBuiltins "isinstance" = some (.builtin "isinstance")) (ha : PA (X.suite a ((a, oe) :: pn)) [.Name y p3, .Name x p1] (tCons (tVar i) (tCons (tC (.ref C)) tNil))) : PE (X.suite a ((a, oe) :: pn)) (.Call (.Name "isinstance" p) [.Name y p3, .Name x p1] [] p2) (tIsE X.K i C a cls d) :=
  pe_callB (X := X.suite a ((a, oe) :: pn)) (call_isX hz hf) hg hm hv ha
/-- what the law's def promises -/
def spL (K : PySem.W.Frag) (n : Nat) (g : List D → R SV) : Sp := fun vs H Q E => vs.length = n ∧ ∃ (Hf : Hp) (ds : List D), Same Hf H ∧ DpAll K Hf vs ds ∧ g ds = .ok (.d (.bool true)) ∧ ∀ H', Q (.bl true) H'
theorem spL_ok {P : Program} {w : World} {K : PySem.W.Frag} {mg : Str → Option Value} {base : Heap} {CX : CXT} {cm : Nat → Addr × List Str} {k n : Nat} {f : Addr} {fd : FuncData} {ps : List Str} {g : List D → R SV} (F : FnOk P w K mg base CX k f fd ps (spF w K cm n g)) : FnOk P w K mg base CX k f fd ps (spL K n g) :=
  F.imp fun vs H Q E ⟨hl, Hf, ds, i, q, e, hq⟩ => ⟨hl, ⟨0, 0, none⟩, Hf, ds, i, q, by
    rw [e]
    intro v Hf' H' x r _
    cases r
    exact hq H'⟩
theorem law_spL {K : PySem.W.Frag} {g : List D → R SV} {H : Hp} {a : Addr} {ns : List Int} {E : XK} (hS : SqL K H a (ns.map V.int)) (h : g [.list (ns.map PyData.int)] = .ok (.d (.bool true))) :
    spL K 1 g [.ref a] H (fun v _ => v = .bl true) E := ⟨rfl, H, [.list (ns.map PyData.int)], .refl _, .cons (.lst hS (dpAll_ints ns)) .nil, h, fun _ => rfl⟩
end
end Pl
namespace Pl
open PySem PySem.Spec PyProof.Rows L2
/-! ### max of three -/
abbrev rMax3 : List V → Hp → VK → Prop := rNuC3 nuMax3
theorem cb_max3 {X : Cx} (hc : X.calm = true) : CallR X (.builtin "max") rMax3 := call_max3Nu hc
def max3S : List SV → R SV
  | [.d (.int a), .d (.int b), .d (.int e)] => .ok (.d (.int (if (if a < b then b else a) < e then e else (if a < b then b else a))))
  | _ => .bad
theorem c1_max3 {c : Ct} : C1ok c rMax3 max3S := by
  intro Hf H vs rs Q i h o
  unfold max3S at o
  split at o
  · rename_i a b e
    cases h with
    | cons h1 h =>
      cases h with
      | cons h2 h =>
        cases h with
        | cons h3 h =>
          cases h; cases h1; cases h2; cases h3
          refine ⟨.int a, .int b, .int e, .int (if (if a < b then b else a) < e then e else (if a < b then b else a)), rfl, ?_, GE.now o i (.int _)⟩
          have m : ∀ x y : Int, nuMax2 (.int x) (.int y) = some (.int (if x < y then y else x)) := fun x y => by
            show some (if decide (x < y) = true then V.int y else V.int x) = _
            by_cases z : x < y <;> simp [z]
          unfold nuMax3
          rw [m, Option.bind_some, m]
  · exact o.elim
end Pl
/-! PlC: dicts of this frame, with str or int keys. -/
namespace Pl
open PySem PySem.Spec PyProof.Rows L2
def valD {κ : Type} [DecidableEq κ] (kvs : List (κ × D)) (k : κ) : Option D := (kvs.find? fun kv => decide (kv.1 = k)).map (·.2)
def putD {κ : Type} [DecidableEq κ] (kvs : List (κ × D)) (k : κ) (v : D) : List (κ × D) :=
  if (kvs.any fun kv => decide (kv.1 = k)) = true then kvs.map (fun kv => if kv.1 = k then (kv.1, v) else kv) else kvs ++ [(k, v)]
section
variable {K : PySem.W.Frag} {Hf : Hp}
theorem dkv_mono {Hf' : Hp} (e : Same Hf Hf') {ws : List (Key × V)} {ks : List (Key × D)} (h : DpKV K Hf ws ks) : DpKV K Hf' ws ks := Paired.mapP h fun _ _ q => ⟨q.1, dp_mono e q.2⟩
theorem dkv_len {ws : List (Key × V)} {ks : List (Key × D)} (h : DpKV K Hf ws ks) : ws.length = ks.length := Paired.length h
theorem dkv_any (k : Key) : ∀ {ws : List (Key × V)} {ks : List (Key × D)}, DpKV K Hf ws ks → (ws.any fun kv => decide (kv.1 = k)) = (ks.any fun kv => decide (kv.1 = k))
  | _, _, .nil => rfl
  | _, _, .cons q r => by rw [List.any_cons, List.any_cons, q.1, dkv_any k r]
theorem dkv_get (k : Key) : ∀ {ws : List (Key × V)} {ks : List (Key × D)}, DpKV K Hf ws ks → (valD ks k = none ∧ valV ws k = none) ∨ ∃ d v, valD ks k = some d ∧ valV ws k = some v ∧ Dp K Hf v d
  | _, _, .nil => .inl ⟨rfl, rfl⟩
  | _, _, .cons (a := a) (b := b) (l₁ := l₁) (l₂ := l₂) q r => by
    have ih := dkv_get k r
    unfold valD valV at ih ⊢
    rw [List.find?_cons, List.find?_cons, q.1]
    by_cases c : b.1 = k
    · exact .inr ⟨b.2, a.2, by simp [c], by simp [c], q.2⟩
    · simp only [c, decide_false]
      exact ih
theorem dkv_map {k : Key} {v : V} {d : D} (hv : Dp K Hf v d) : ∀ {ws : List (Key × V)} {ks : List (Key × D)}, DpKV K Hf ws ks → DpKV K Hf (ws.map fun kv => if kv.1 = k then (kv.1, v) else kv) (ks.map fun kv => if kv.1 = k then (kv.1, d) else kv)
  | _, _, .nil => .nil
  | _, _, .cons (a := a) (b := b) q r => by
    refine .cons ?_ (dkv_map hv r)
    show (if a.1 = k then (a.1, v) else a).1 = (if b.1 = k then (b.1, d) else b).1 ∧ Dp K Hf (if a.1 = k then (a.1, v) else a).2 (if b.1 = k then (b.1, d) else b).2
    rw [q.1]
    split
    · exact ⟨rfl, hv⟩
    · exact q
theorem dkv_put {k : Key} {v : V} {d : D} {ws : List (Key × V)} {ks : List (Key × D)} (hv : Dp K Hf v d) (h : DpKV K Hf ws ks) : DpKV K Hf (putK ws k v) (putD ks k d) := by
  unfold putK putD
  rw [dkv_any k h]
  split
  · exact dkv_map hv h
  · exact Paired.snoc h ⟨rfl, hv⟩
end
/-! ### a dict of this frame is changed -/
theorem ExFs.updD {K : Kx} {Hf H : Hp} {as : List D} {p : Addr} {xs ys : List (Key × V)} (hp : H p = some (.dK xs)) (h : ExFs K Hf H as) : ExFs K Hf (L2.upd H p (.dK ys)) as := by
  unfold ExFs at h ⊢
  split at h
  · exact h
  · obtain ⟨vs, h1, h2, h3⟩ := h
    exact ⟨vs, by rw [upd_ne (fun z => by subst z; rw [hp] at h1; cases h1)]; exact h1, h2, h3⟩
/-- the slot's object is written anew -/
theorem EnvOk.rewriteO {K : Kx} {B : Bs} {H0 Hf H : Hp} {σ : L2.St} {ρ : En} {i : Nat} {xs xs' : List (Key × D)} {vs vs' : List (Key × V)} {p : Addr} (I : EnvOk K B H0 Hf H σ ρ) (e : ρ[i]? = some (some (.od xs))) (h1 : σ[i]? = some (some (.ref p))) (h2 : H p = some (.dK vs)) (h3 : Hf p = none) (h4 : DpKV K Hf vs' xs') :
    EnvOk K B H0 Hf (upd H p (.dK vs')) σ (ρ.set i (some (.od xs'))) := by
  have hn := I.new i _ p e rfl h1
  refine ⟨⟨I.ext.f, fun b o eb => ?_, fun b o eb => ?_, I.ext.n⟩, by rw [List.length_set]; exact I.len, fun j s ej => ?_, fun j s q ej oj es => ?_, fun j k sj sk q ej oj ek ok e1 e2 => ?_, fun j ys ej => ?_⟩
  · rw [upd_ne (ne_of_none eb hn)]; exact I.ext.h _ _ eb
  · rw [upd_ne (ne_of_none eb h3)]; exact I.i _ _ eb
  · rcases set_get ej with ⟨rfl, ej, _⟩ | ⟨hj, ej⟩
    · cases ej
      exact ⟨_, h1, p, _, rfl, upd_same, h3, h4⟩
    · obtain ⟨w, w1, w2⟩ := I.sl j s ej
      refine ⟨w, w1, ?_⟩
      cases s with
      | d x => exact w2
      | ol ys =>
        obtain ⟨q, us, rfl, u1, u2⟩ := w2
        have hq : q ≠ p := fun z => hj (I.sep j i _ _ p ej rfl e rfl (z ▸ w1) h1)
        exact ⟨q, us, rfl, by rw [upd_ne hq]; exact u1, u2⟩
      | od ys =>
        obtain ⟨q, us, rfl, u1, u2⟩ := w2
        have hq : q ≠ p := fun z => hj (I.sep j i _ _ p ej rfl e rfl (z ▸ w1) h1)
        exact ⟨q, us, rfl, by rw [upd_ne hq]; exact u1, u2⟩
      | pin ys =>
        obtain ⟨q, us, rfl, u1, u2⟩ := w2
        have hq : q ≠ p := I.pin_ne ej w1 hn
        exact ⟨q, us, rfl, by rw [upd_ne hq]; exact u1, u2⟩
      | exn n as => exact ⟨w2.1, w2.2.1, w2.2.2.updD h2⟩
      | pd ys => exact w2
      | kd ys =>
        obtain ⟨q, ep, us, rfl, u1, u2⟩ := w2
        have hq : q ≠ p := fun z => hj (I.sep j i _ _ p ej rfl e rfl (z ▸ w1) h1)
        exact ⟨q, ep, us, rfl, by rw [upd_ne hq]; exact u1, u2⟩
      | sk ys => exact w2
      | sd ys => exact w2
      | so C fs => exact w2
      | rw _ _ _ _ => exact w2
      | oi C fs =>
        obtain ⟨q, dx, us, rfl, u1, u2⟩ := w2
        have hq : q ≠ p := fun z => hj (I.sep j i _ _ p ej rfl e rfl (z ▸ w1) h1)
        exact ⟨q, dx, us, rfl, by rw [upd_ne hq]; exact u1, u2⟩
  · rcases set_get ej with ⟨rfl, ej, _⟩ | ⟨_, ej⟩
    · rw [h1] at es; cases es; exact hn
    · exact I.new j s q ej oj es
  · have old : ∀ {j : Nat} {s : SV}, (ρ.set i (some (.od xs')))[j]? = some (some s) → s.own = true → ∃ s', ρ[j]? = some (some s') ∧ s'.own = true := by
      intro j s ej oj
      rcases set_get ej with ⟨rfl, _, _⟩ | ⟨_, ej⟩
      · exact ⟨_, e, rfl⟩
      · exact ⟨s, ej, oj⟩
    obtain ⟨sj', a1, a2⟩ := old ej oj
    obtain ⟨sk', b1, b2⟩ := old ek ok
    exact I.sep j k sj' sk' q a1 a2 b1 b2 e1 e2
  · rcases set_get ej with ⟨_, ej, _⟩ | ⟨_, ej⟩
    · cases ej
    · exact I.pin j ys ej
def key1 : SV → R Key
  | .d (.str s) => .ok (.inr s)
  | .d (.int i) => .ok (.inl i)
  | _ => .bad
theorem key1_ok {K : Kx} {Hf H : Hp} {v : V} {r : SV} {k : Key} (q : RepR K Hf H v r) (e : key1 r = .ok k) : v = kV k := by
  unfold key1 at e
  split at e
  · cases e; cases q; rfl
  · cases e; cases q; rfl
  · cases e
theorem u1 {k : Nat} {A : Around} (r : Room k A) : A.units + 1 < cLine := by have := r.un; omega
section
variable {c : Ct}
def dnewS : En → R SV := fun _ => .ok (.od [])
theorem sem_dnew : SemE c true tDNewK dnewS := by
  intro B H0 Hf H σ ρ Q I o
  exact fun p hp => (show GE c true Hf H Q (.od []) from o) _ Hf _ (.fresh I.i hp) ⟨p, [], rfl, upd_same, I.i.free hp, .nil⟩ fun _ _ p' e => by cases e; exact hp
def putS (i : Nat) (fk f : En → R SV) : En → R Fl := fun ρ => f ρ >>= fun r => datS r >>= fun d => match ρ[i]? with
  | some (some (.od kvs)) => fk ρ >>= fun kk => match key1 kk with
    | .ok k => if kvs.length < sizeLine then .ok (.nx (ρ.set i (some (.od (putD kvs k d))))) else .bad
    | _ => .bad
  | _ => .bad
theorem sem_put {i : Nat} {t tk : TE} {f fk : En → R SV} (h : SemE c true t f) (hk : SemE c false tk fk) : SemS c (sDPut (tVar i) tk t) (putS i fk f) := by
  intro B H0 Hf H σ ρ Dn I o
  refine h B H0 Hf H σ ρ _ I ((Out.bind o fun a ea o1 => ?_ : Out c B H0 (f ρ) (GE c true Hf H _)).here I.ext)
  intro u Hf1 H1 x1 q1 fr
  obtain ⟨d, ed, o2⟩ := out_dat o1
  obtain ⟨Hf2, x2, q2⟩ := froze x1 q1 (fr rfl) ed
  split at o2
  rotate_left
  · exact o2.elim
  rename_i kvs e
  have I2 := I.grow x2
  obtain ⟨v, h1, p, vs, rfl, h2, h3, h4⟩ := I2.sl i _ e
  refine ⟨.ref p, h1, ?_⟩
  refine hk B H0 Hf2 H1 σ ρ _ I2 ((Out.bind o2 fun kk ek o3 => ?_ : Out c B H0 (fk ρ) (GE c false Hf2 H1 _)).here I2.ext)
  intro w Hf3 H3 x3 q3 _
  split at o3
  rotate_left
  · exact o3.elim
  rename_i k ek
  have hw := key1_ok q3 ek
  subst hw
  split at o3
  rotate_left
  · exact o3.elim
  rename_i hl
  have I3 := I2.grow x3
  have h2' := x3.h _ _ h2
  have h3' := x3.still h2 h3
  have h4' := dkv_mono x3.f h4
  exact ⟨p, _, rfl, .inl ⟨vs, k, h2', rfl, by rw [dkv_len h4]; exact hl, rfl⟩, (show GS c B H0 Dn (.nx _) from o3) _ _ _ (I3.rewriteO e h1 h2' h3' (dkv_put (dp_mono x3.f q2) h4'))⟩
def dictOf : SV → Option (List (Key × D))
  | .od kvs => some kvs
  | .pd kvs => some kvs
  | .sd kvs => some kvs
  | _ => none
theorem dictOf_ok {Hf H : Hp} {v : V} {r : SV} {kvs : List (Key × D)} (i : Same Hf H) (q : RepR c.K Hf H v r) (e : dictOf r = some kvs) : ∃ p ws, v = .ref p ∧ Rd H p (.dK ws) ∧ DpKV c.K Hf ws kvs := by
  cases r with
  | od ks => cases e; obtain ⟨p, ws, h, h1, h2, h3⟩ := q; exact ⟨p, ws, h, .inl h1, h3⟩
  | kd x => cases e
  | sk x => cases e
  | sd ks => cases e; obtain ⟨p, ws, h, h1, h3⟩ := q; exact ⟨p, ws, h, .inl (i _ _ h1), h3⟩
  | so C x => cases e
  | rw _ _ _ _ => cases e
  | oi C x => cases e
  | pd ks => cases e; obtain ⟨p, ws, o, h, h1, h3⟩ := q; exact ⟨p, ws, h, .inr ⟨o, i _ _ h1⟩, h3⟩
  | d x => cases e
  | ol x => cases e
  | pin x => cases e
  | exn n as => cases e
theorem rd_mono {H H' : Hp} {p : Addr} {u : HO} (e : Same H H') (h : Rd H p u) : Rd H' p u := by
  rcases h with h | ⟨o, h⟩
  · exact .inl (e _ _ h)
  · exact .inr ⟨o, e _ _ h⟩
def dgetS (i : Nat) (fk : En → R SV) : En → R SV := fun ρ => match ρ[i]? with
  | some (some r) => (match dictOf r with
    | some kvs => fk ρ >>= fun kk => match key1 kk with
      | .ok k => (match valD kvs k with
        | some d => .ok (.d d)
        | none => .bad)
      | _ => .bad
    | none => .bad)
  | _ => .bad
theorem sem_dget {i : Nat} {tk : TE} {fk : En → R SV} (hk : SemE c false tk fk) : SemE c true (tDGet (tVar i) tk) (dgetS i fk) := by
  intro B H0 Hf H σ ρ Q I o
  unfold dgetS at o
  split at o
  rotate_left
  · exact o.elim
  rename_i r e
  split at o
  rotate_left
  · exact o.elim
  rename_i kvs er
  obtain ⟨v, h1, q⟩ := I.sl i _ e
  obtain ⟨p, ws, rfl, h2, h3⟩ := dictOf_ok (c := c) I.i q er
  refine ⟨.ref p, h1, ?_⟩
  refine hk B H0 Hf H σ ρ _ I (Out.bind o fun kk ek o1 => ?_)
  intro w Hf1 H1 x1 q1 _
  split at o1
  rotate_left
  · exact o1.elim
  rename_i k ek'
  have hw := key1_ok q1 ek'
  subst hw
  split at o1
  rotate_left
  · exact o1.elim
  rename_i d ed
  rcases dkv_get k h3 with ⟨a1, a2⟩ | ⟨d', v', a1, a2, a3⟩
  · rw [a1] at ed; cases ed
  · rw [a1] at ed; cases ed
    exact ⟨p, v', rfl, .inl ⟨ws, k, rd_mono x1.h h2, rfl, a2.symm⟩, GE.now (GE.grow (show GE c true Hf H Q _ from o1) x1) x1.i (dp_mono x1.f a3)⟩
def dget2S (i : Nat) (fk fx : En → R SV) : En → R SV := fun ρ => match ρ[i]? with
  | some (some r) => (match dictOf r with
    | some kvs => fk ρ >>= fun kk => match key1 kk with
      | .ok k => fx ρ >>= fun x => (match x with
        | .d x => .ok (.d ((valD kvs k).getD x))
        | _ => .bad)
      | _ => .bad
    | none => .bad)
  | _ => .bad
theorem sem_dget2 {i : Nat} {tk tx : TE} {fk fx : En → R SV} (hk : SemE c false tk fk) (hx : SemE c false tx fx) : SemE c true (tDGet2 (tVar i) tk tx) (dget2S i fk fx) := by
  intro B H0 Hf H σ ρ Q I o
  unfold dget2S at o
  split at o
  rotate_left
  · exact o.elim
  rename_i r e
  split at o
  rotate_left
  · exact o.elim
  rename_i kvs er
  obtain ⟨v, h1, q⟩ := I.sl i _ e
  obtain ⟨p, ws, rfl, h2, h3⟩ := dictOf_ok (c := c) I.i q er
  refine ⟨.ref p, h1, p, rfl, .inl ⟨ws, h2⟩, ?_⟩
  refine hk B H0 Hf H σ ρ _ I (Out.bind o fun kk ek o1 => ?_)
  intro w Hf1 H1 x1 q1 _
  split at o1
  rotate_left
  · exact o1.elim
  rename_i k ek'
  have hw := key1_ok q1 ek'
  subst hw
  refine hx B H0 Hf1 H1 σ ρ _ (I.grow x1) (Out.bind (o1.grow x1 fun _ g => g) fun xx ex o2 => ?_)
  intro z Hf2 H2 x2 q2 _
  split at o2
  rotate_left
  · exact o2.elim
  rename_i xd _
  have h3' := dkv_mono (x1.f.trans x2.f) h3
  have h2' := rd_mono (x1.h.trans x2.h) h2
  have g : GE c true Hf2 H2 Q (.d ((valD kvs k).getD xd)) := GE.grow (GE.grow (show GE c true Hf H Q _ from o2) x1) x2
  rcases dkv_get k h3' with ⟨a1, a2⟩ | ⟨d', v', a1, a2, a3⟩
  · refine ⟨none, .inl ⟨ws, k, h2', rfl, a2.symm⟩, ?_⟩
    rw [a1] at g
    exact GE.now g x2.i q2
  · refine ⟨some v', .inl ⟨ws, k, h2', rfl, a2.symm⟩, ?_⟩
    rw [a1] at g
    exact GE.now g x2.i a3
def inDS (neg : Bool) (i : Nat) (fk : En → R SV) : En → R SV := fun ρ => fk ρ >>= fun kk => match key1 kk with
  | .ok k => (match ρ[i]? with
    | some (some r) => (match dictOf r with
      | some kvs => .ok (.d (.bool (if neg then !(valD kvs k).isSome else (valD kvs k).isSome)))
      | none => .bad)
    | _ => .bad)
  | _ => .bad
theorem sem_inD_core {i : Nat} {neg : Bool} {tk : TE} {fk : En → R SV} (hk : SemE c false tk fk) {B : Bs} {H0 Hf H : Hp} {σ : L2.St} {ρ : En} {Q : VK} (I : EnvOk c.K B H0 Hf H σ ρ) (o : Out c Hf H (inDS neg i fk ρ) (GE c true Hf H Q)) :
    tk σ H fun y H1 => tVar i σ H1 fun x H2 => ∃ a ov, x = .ref a ∧ DGet H2 a y ov ∧ Q (.bl (if neg then !ov.isSome else ov.isSome)) H2 := by
  unfold inDS at o
  refine hk B H0 Hf H σ ρ _ I (Out.bind o fun kk ek o1 => ?_)
  intro w Hf1 H1 x1 q1 _
  split at o1
  rotate_left
  · exact o1.elim
  rename_i k ek'
  have hw := key1_ok q1 ek'
  subst hw
  split at o1
  rotate_left
  · exact o1.elim
  rename_i r e
  split at o1
  rotate_left
  · exact o1.elim
  rename_i kvs er
  obtain ⟨v, h1, q⟩ := (I.grow x1).sl i _ e
  obtain ⟨p, ws, rfl, h2, h3⟩ := dictOf_ok (c := c) x1.i q er
  refine ⟨.ref p, h1, p, valV ws k, rfl, .inl ⟨ws, k, h2, rfl, rfl⟩, ?_⟩
  have es : (valV ws k).isSome = (valD kvs k).isSome := by
    rcases dkv_get k h3 with ⟨a1, a2⟩ | ⟨d', v', a1, a2, _⟩
    · rw [a1, a2]; rfl
    · rw [a1, a2]; rfl
  rw [es]
  exact GE.now (GE.grow (show GE c true Hf H Q _ from o1) x1) x1.i (.bl _)
theorem sem_inD {i : Nat} {tk : TE} {fk : En → R SV} (hk : SemE c false tk fk) : SemE c true (tDIn tk (tVar i)) (inDS false i fk) := fun _ _ _ _ _ _ _ I o => sem_inD_core (neg := false) hk I o
theorem sem_notInD {i : Nat} {tk : TE} {fk : En → R SV} (hk : SemE c false tk fk) : SemE c true (tDNotIn tk (tVar i)) (inDS true i fk) := fun _ _ _ _ _ _ _ I o => sem_inD_core (neg := true) hk I o
/-! ### a comprehension over a dict of this frame -/
def less (d : Addr) (H : Hp) : Hp := fun b => if b = d then none else H b
theorem less_ne {d b : Addr} {H : Hp} (h : b ≠ d) : less d H b = H b := if_neg h
theorem rd_less {H : Hp} {d a : Addr} {o : Obj} {ks : List (Key × V)} {u : HO} (hd : H d = some (.frz o (.dK ks))) (hu : ∀ ks, u ≠ .dK ks) (hf : ∀ o' w, u ≠ .frz o' w) (h : Rd H a u) : Rd (less d H) a u := by
  rcases h with h | ⟨o', h⟩
  · have hne : a ≠ d := fun z => by rw [z, hd] at h; injection h with h; exact hf _ _ h.symm
    exact .inl (by rw [less_ne hne]; exact h)
  · have hne : a ≠ d := fun z => by rw [z, hd] at h; injection h with h; injection h with _ h; exact hu _ h.symm
    exact .inr ⟨o', by rw [less_ne hne]; exact h⟩
theorem sqL_less {K : PySem.W.Frag} {H : Hp} {d a : Addr} {o : Obj} {ks : List (Key × V)} {xs : List V} (hd : H d = some (.frz o (.dK ks))) (h : SqL K H a xs) : SqL K (less d H) a xs := by
  rcases h with h | h
  · exact .inl (rd_less hd (fun _ z => nomatch z) (fun _ _ z => nomatch z) h)
  · exact .inr h
theorem sqT_less {K : PySem.W.Frag} {H : Hp} {d a : Addr} {o : Obj} {ks : List (Key × V)} {xs : List V} (hd : H d = some (.frz o (.dK ks))) (h : SqT K H a xs) : SqT K (less d H) a xs := by
  rcases h with h | h
  · exact .inl (rd_less hd (fun _ z => nomatch z) (fun _ _ z => nomatch z) h)
  · exact .inr h
mutual
theorem dp_less {K : PySem.W.Frag} {H : Hp} {a : Addr} {o : Obj} {ks : List (Key × V)} (hd : H a = some (.frz o (.dK ks))) : ∀ {d : D} {v : V}, Dp K H v d → Dp K (less a H) v d
  | .none, _, h => by cases h; exact .non
  | .bool b, _, h => by cases h; exact .bl b
  | .int i, _, h => by cases h; exact .int i
  | .str x, _, h => by cases h; exact .str x
  | .list ds, _, h => by
    cases h with
    | lst h1 h2 => exact .lst (sqL_less hd h1) (dpAll_less hd h2)
  | .tuple ds, _, h => by
    cases h with
    | tup h1 h2 => exact .tup (sqT_less hd h1) (dpAll_less hd h2)
  | .dict _, _, h => by cases h
theorem dpAll_less {K : PySem.W.Frag} {H : Hp} {a : Addr} {o : Obj} {ks : List (Key × V)} (hd : H a = some (.frz o (.dK ks))) : ∀ {ds : List D} {vs : List V}, DpAll K H vs ds → DpAll K (less a H) vs ds
  | [], _, h => by cases h; exact .nil
  | d :: ds, _, h => by
    cases h with
    | cons h1 h2 => exact .cons (dp_less hd h1) (dpAll_less hd h2)
end
def lockD (i : Nat) (f : En → R SV) : En → R SV := fun ρ => match ρ[i]? with
  | some (some (.od kvs)) => (match f (ρ.set i (some (.pd kvs))) with
    | .ok (.ol xs) => .ok (.ol xs)
    | _ => .bad)
  | _ => .bad
theorem sem_lock {i : Nat} {t : TE} {f : En → R SV} (h : SemE c true t f) : SemE c true (tLockE t) (lockD i f) := by
  intro B H0 Hf H σ ρ Q I o
  unfold lockD at o
  split at o
  rotate_left
  · exact o.elim
  rename_i kvs e
  obtain ⟨v, h1, p, ws, rfl, h2, h3, h4⟩ := I.sl i _ e
  have hn := I.new i _ p e rfl h1
  refine ⟨p, .dK ws, h2, trivial, fun od => ?_⟩
  have g : Same Hf (L2.upd Hf p (.frz od (.dK ws))) := upd_grow h3
  have I1 : EnvOk c.K B H0 (L2.upd Hf p (.frz od (.dK ws))) (L2.upd H p (.frz od (.dK ws))) σ (ρ.set i (some (.pd kvs))) := by
    refine ⟨⟨I.ext.f.trans g, fun b o eb => ?_, upd_both I.i, fun b eb => ?_⟩, by rw [List.length_set, I.len], fun j s ej => ?_, fun j s q ej oj es => ?_, fun j k sj sk q ej oj ek ok e1 e2 => ?_, fun j ys ej => ?_⟩
    · rw [upd_ne (ne_of_none eb hn)]; exact I.ext.h _ _ eb
    · by_cases hb : b = p
      · subst hb; exact .inr hn
      · rw [upd_ne hb] at eb; exact I.ext.n b eb
    · rcases set_get ej with ⟨rfl, ej, _⟩ | ⟨hj, ej⟩
      · cases ej
        exact ⟨_, h1, p, ws, od, rfl, upd_same, dkv_mono g h4⟩
      · obtain ⟨w, w1, w2⟩ := I.sl j s ej
        refine ⟨w, w1, ?_⟩
        cases s with
        | d x => exact dp_mono g w2
        | ol ys =>
          obtain ⟨q, us, rfl, u1, u2, u3⟩ := w2
          have hq : q ≠ p := fun z => hj (I.sep j i _ _ p ej rfl e rfl (z ▸ w1) h1)
          exact ⟨q, us, rfl, by rw [upd_ne hq]; exact u1, by rw [upd_ne hq]; exact u2, dpAll_mono g u3⟩
        | od ys =>
          obtain ⟨q, us, rfl, u1, u2, u3⟩ := w2
          have hq : q ≠ p := fun z => hj (I.sep j i _ _ p ej rfl e rfl (z ▸ w1) h1)
          exact ⟨q, us, rfl, by rw [upd_ne hq]; exact u1, by rw [upd_ne hq]; exact u2, dkv_mono g u3⟩
        | pin ys =>
          obtain ⟨q, us, rfl, u1, u2, u3⟩ := w2
          have hq : q ≠ p := I.pin_ne ej w1 hn
          exact ⟨q, us, rfl, by rw [upd_ne hq]; exact u1, by rw [upd_ne hq]; exact u2, dpAll_mono g u3⟩
        | exn n as =>
          refine ⟨w2.1, w2.2.1, ?_⟩
          have w3 := w2.2.2
          unfold ExFs at w3 ⊢
          split at w3
          · exact w3
          · obtain ⟨vs, a1, a2, a3⟩ := w3
            exact ⟨vs, by rw [upd_ne (fun z => by rw [z, h2] at a1; cases a1)]; exact a1, a2, dpAll_mono g a3⟩
        | pd ys =>
          obtain ⟨q, us, o', rfl, u1, u3⟩ := w2
          have hq : q ≠ p := fun z => by rw [z, h3] at u1; cases u1
          exact ⟨q, us, o', rfl, by rw [upd_ne hq]; exact u1, dkv_mono g u3⟩
        | kd ys =>
          obtain ⟨q, ep, us, rfl, u1, u2, u3⟩ := w2
          have hq : q ≠ p := fun z => hj (I.sep j i _ _ p ej rfl e rfl (z ▸ w1) h1)
          exact ⟨q, ep, us, rfl, by rw [upd_ne hq]; exact u1, by rw [upd_ne hq]; exact u2, kdr_mono g u3⟩
        | sk ys =>
          obtain ⟨q, ep, us, rfl, u1, u3⟩ := w2
          have hq : q ≠ p := fun z => by rw [z, h3] at u1; cases u1
          exact ⟨q, ep, us, rfl, by rw [upd_ne hq]; exact u1, kdr_mono g u3⟩
        | sd ys =>
          obtain ⟨q, us, rfl, u1, u3⟩ := w2
          have hq : q ≠ p := fun z => by rw [z, h3] at u1; cases u1
          exact ⟨q, us, rfl, by rw [upd_ne hq]; exact u1, dkv_mono g u3⟩
        | so C ys =>
          obtain ⟨q, dx, us, rfl, u1, u3⟩ := w2
          have hq : q ≠ p := fun z => by rw [z, h3] at u1; cases u1
          exact ⟨q, dx, us, rfl, by rw [upd_ne hq]; exact u1, fsr_mono g u3⟩
        | rw _ _ _ _ => exact RwR.mono g w2
        | oi C ys =>
          obtain ⟨q, dx, us, rfl, u1, u2, u3, u4⟩ := w2
          have hq : q ≠ p := fun z => hj (I.sep j i _ _ p ej rfl e rfl (z ▸ w1) h1)
          exact ⟨q, dx, us, rfl, by rw [upd_ne hq]; exact u1, by rw [upd_ne hq]; exact u2, fsr_mono g u3, u4⟩
    · rcases set_get ej with ⟨_, ej, _⟩ | ⟨_, ej⟩
      · cases ej; cases oj
      · exact I.new j s q ej oj es
    · rcases set_get ej with ⟨_, ej, _⟩ | ⟨_, ej⟩
      · cases ej; cases oj
      · rcases set_get ek with ⟨_, ek, _⟩ | ⟨_, ek⟩
        · cases ek; cases ok
        · exact I.sep j k sj sk q ej oj ek ok e1 e2
    · rcases set_get ej with ⟨_, ej, _⟩ | ⟨_, ej⟩
      · cases ej
      · exact I.pin j ys ej
  refine h B H0 _ _ σ _ _ I1 ?_
  cases ef : f (ρ.set i (some (.pd kvs))) with
  | bad => rw [ef] at o; exact o.elim
  | ex n as => rw [ef] at o; exact o.elim
  | ok r =>
    rw [ef] at o
    cases r with
    | d x => exact o.elim
    | od x => exact o.elim
    | pin x => exact o.elim
    | exn n as => exact o.elim
    | pd x => exact o.elim
    | kd x => exact o.elim
    | sk x => exact o.elim
    | sd x => exact o.elim
    | so C x => exact o.elim
    | rw _ _ _ _ => exact o.elim
    | oi C x => exact o.elim
    | ol xs =>
      intro v Hf' H' x q fr
      obtain ⟨p2, vs, rfl, q1, q2, q3⟩ := q
      have hp := x.h _ _ (upd_same (H := H) (a := p) (o := .frz od (.dK ws)))
      have hfp := x.f _ _ (upd_same (H := Hf) (a := p) (o := .frz od (.dK ws)))
      have hne : p2 ≠ p := fun z => by rw [z, hp] at q1; cases q1
      refine ⟨hp, (show GE c true Hf H Q (.ol xs) from o) (.ref p2) (less p Hf') (L2.upd H' p (.dK ws)) ⟨fun b o eb => ?_, fun b o eb => ?_, fun b o eb => ?_, fun b eb => ?_⟩ ⟨p2, vs, rfl, by rw [upd_ne hne]; exact q1, by rw [less_ne hne]; exact q2, dpAll_less hfp q3⟩ fun a b p' e' => ?_⟩
      · have hb : b ≠ p := ne_of_none eb h3
        rw [less_ne hb]; exact x.f _ _ (by rw [upd_ne hb]; exact eb)
      · by_cases hb : b = p
        · subst hb; rw [h2] at eb; cases eb; exact upd_same
        · rw [upd_ne hb]; exact x.h _ _ (by rw [upd_ne hb]; exact eb)
      · have hb : b ≠ p := fun z => by rw [z] at eb; unfold less at eb; rw [if_pos rfl] at eb; cases eb
        rw [less_ne hb] at eb
        rw [upd_ne hb]; exact x.i _ _ eb
      · have hb : b ≠ p := fun z => by rw [z] at eb; unfold less at eb; rw [if_pos rfl] at eb; exact eb rfl
        rw [less_ne hb] at eb
        rcases x.n b eb with z | z
        · rw [upd_ne hb] at z; exact .inl z
        · rw [upd_ne hb] at z; exact .inr z
      · have z := fr rfl rfl p' e'
        have hb : p' ≠ p := fun w => by rw [w, upd_same] at z; cases z
        rw [upd_ne hb] at z; exact z
def keyD : Key → D
  | .inl i => .int i
  | .inr s => .str s
theorem keyD_ok {K : PySem.W.Frag} {Hf : Hp} : ∀ k : Key, Dp K Hf (kV k) (keyD k)
  | .inl i => .int i
  | .inr s => .str s
def keysD (i : Nat) : En → R (List D) := fun ρ => match ρ[i]? with
  | some (some (.pd kvs)) => .ok (kvs.map fun kv => keyD kv.1)
  | _ => .bad
theorem dkv_at {K : PySem.W.Frag} {Hf : Hp} : ∀ {ws : List (Key × V)} {ks : List (Key × D)} {i : Nat} {k : Key} {v : V}, DpKV K Hf ws ks → ws[i]? = some (k, v) → ∃ d, ks[i]? = some (k, d)
  | _, _, _, _, _, .nil, e => by simp at e
  | _, _, 0, _, _, .cons (b := b) q _, e => by
    simp at e; subst e
    exact ⟨b.2, by simp; exact Prod.ext q.1.symm rfl⟩
  | _, _, i + 1, _, _, .cons q r, e => by
    obtain ⟨d, h⟩ := dkv_at (i := i) r (by simpa using e)
    exact ⟨d, by simpa using h⟩
theorem sem_keysI {i : Nat} : SemI c (iKeys (tVar i)) (keysD i) := by
  intro B H0 Hf H σ ρ Rr I o
  unfold keysD at o
  split at o
  rotate_left
  · exact o.elim
  rename_i kvs e
  obtain ⟨v, h1, p, ws, od, rfl, h2, h3⟩ := I.sl i _ e
  refine ⟨.ref p, h1, p, od, rfl, .inl ⟨ws, I.i _ _ h2, ?_⟩⟩
  refine o _ Hf H (.refl I.i) ⟨fun i H x H' => H' = H ∧ ∃ k v, ws[i]? = some (k, v) ∧ x = kV k, ?_, fun j H x H' Hfi hi s1 s2 y => ?_⟩
  · rw [List.length_map, ← dkv_len h3]
    exact walk_keys.mono (fun H e => e _ _ h2) fun _ _ _ _ _ _ y => y
  · obtain ⟨rfl, k, v, e1, rfl⟩ := y
    obtain ⟨d, e2⟩ := dkv_at h3 e1
    exact ⟨keyD k, Hfi, by rw [List.getElem?_map, e2]; rfl, .refl s2, keyD_ok k⟩
end
end Pl
/-! PlD: dicts keyed by tuples (own .kd, shared .sk); list(d), sorted(d); defs whose arguments may be shared dicts or instances. -/
namespace Pl
open PySem PySem.Spec PyProof.Rows L2
theorem uk {k : Nat} {A : Around} (r : Room k A) : A.units + 65 < cLine := by have := r.un; omega
def kdKey : SV → R NestedKey
  | .d (.tuple ds) => match nkD (.tuple ds) with
    | some k => if k.depth ≤ 8 then .ok k else .bad
    | none => .bad
  | _ => .bad
theorem kdKey_ok {K : Kx} {Hf H : Hp} {v : V} {r : SV} {k : NestedKey} (q : RepR K Hf H v r) (e : kdKey r = .ok k) : ∃ b, v = .ref b ∧ KeyH K Hf k b := by
  unfold kdKey at e
  split at e
  · rename_i ds
    split at e
    · rename_i k' ek
      split at e
      · rename_i hd
        cases e
        have q' : Dp K.k Hf v (.tuple ds) := q
        have hk := nk_data _ _ ek
        cases q' with
        | tup h1 h2 =>
          refine ⟨_, rfl, ?_, hd⟩
          rw [hk]
          exact .tup h1 h2
      · cases e
    · cases e
  · cases e
def kdOf : SV → Option (List (NestedKey × D))
  | .kd kvs => some kvs
  | .sk kvs => some kvs
  | _ => none
theorem kdOf_ok {K : Kx} {Hf H : Hp} {v : V} {r : SV} {kvs : List (NestedKey × D)} (i : Same Hf H) (q : RepR K Hf H v r) (e : kdOf r = some kvs) : ∃ p ep xs, v = .ref p ∧ H p = some (kdx K.w p ep xs) ∧ Paired (KdR K Hf) xs kvs := by
  cases r with
  | kd ks => cases e; obtain ⟨p, ep, xs, h, h1, _, h3⟩ := q; exact ⟨p, ep, xs, h, h1, h3⟩
  | sk ks => cases e; obtain ⟨p, ep, xs, h, h1, h3⟩ := q; exact ⟨p, ep, xs, h, i _ _ h1, h3⟩
  | _ => cases e
theorem kdr_mem {K : PySem.W.Frag} {Hf : Hp} : ∀ {xs : KX} {kvs : List (NestedKey × D)}, Paired (KdR K Hf) xs kvs → ∀ x ∈ xs, KeyH K Hf x.1 x.2.1
  | _, _, .nil, x, h => by cases h
  | _, _, .cons q r, x, h => by
    rcases List.mem_cons.mp h with rfl | h
    · exact q.2.1
    · exact kdr_mem r x h
theorem keyH_mono {K : PySem.W.Frag} {Hf H : Hp} {k : NestedKey} {b : Addr} (i : Same Hf H) (h : KeyH K Hf k b) : KeyH K H k b := ⟨dp_mono i h.1, h.2⟩
theorem kd_mk {K : PySem.W.Frag} {w : World} {Hf H : Hp} {p : Addr} {ep : Nat} {xs : KX} {kvs : List (NestedKey × D)} (i : Same Hf H) (h : H p = some (kdx w p ep xs)) (r : Paired (KdR K Hf) xs kvs) : KD K w H p xs :=
  ⟨⟨ep, h⟩, fun x hx => keyH_mono i (kdr_mem r x hx)⟩
theorem kdr_len {K : PySem.W.Frag} {Hf : Hp} {xs : KX} {kvs : List (NestedKey × D)} (h : Paired (KdR K Hf) xs kvs) : xs.length = kvs.length := Paired.length h
theorem kdr_val {K : PySem.W.Frag} {Hf : Hp} (k : NestedKey) : ∀ {xs : KX} {kvs : List (NestedKey × D)}, Paired (KdR K Hf) xs kvs → (valD kvs k = none ∧ valX xs k = none) ∨ ∃ d v, valD kvs k = some d ∧ valX xs k = some v ∧ Dp K Hf v d
  | _, _, .nil => .inl ⟨rfl, rfl⟩
  | _, _, .cons (a := a) (b := b) (l₂ := l₂) q r => by
    by_cases c : a.1 = k
    · exact .inr ⟨b.2, a.2.2, by simp [valD, List.find?_cons, q.1.symm.trans c], valX_pos c, q.2.2⟩
    · rw [valX_neg c]
      have e : valD (b :: l₂) k = valD l₂ k := by simp [valD, List.find?_cons, show ¬ b.1 = k from fun z => c (q.1.trans z)]
      rw [e]
      exact kdr_val k r
theorem kdr_some {K : PySem.W.Frag} {Hf : Hp} (k : NestedKey) {xs : KX} {kvs : List (NestedKey × D)} (h : Paired (KdR K Hf) xs kvs) : (valX xs k).isSome = (valD kvs k).isSome := by
  rcases kdr_val k h with ⟨a1, a2⟩ | ⟨d, v, a1, a2, _⟩ <;> rw [a1, a2] <;> rfl
theorem valD_any {κ : Type} [DecidableEq κ] (k : κ) : ∀ kvs : List (κ × D), (kvs.any fun kv => decide (kv.1 = k)) = (valD kvs k).isSome
  | [] => rfl
  | p :: r => by
    rw [List.any_cons]
    by_cases e : p.1 = k
    · simp [valD, List.find?_cons, e]
    · have e2 : valD (p :: r) k = valD r k := by simp [valD, List.find?_cons, e]
      rw [e2, decide_eq_false e, Bool.false_or]; exact valD_any k r
theorem kdr_map {K : PySem.W.Frag} {Hf : Hp} {k : NestedKey} {v : V} {d : D} (hv : Dp K Hf v d) : ∀ {xs : KX} {kvs : List (NestedKey × D)}, Paired (KdR K Hf) xs kvs → Paired (KdR K Hf) (xs.map fun x => if x.1 = k then (x.1, x.2.1, v) else x) (kvs.map fun kv => if kv.1 = k then (kv.1, d) else kv)
  | _, _, .nil => .nil
  | _, _, .cons (a := a) (b := b) q r => by
    rw [List.map_cons, List.map_cons]
    refine .cons ?_ (kdr_map hv r)
    by_cases e : a.1 = k
    · rw [if_pos e, if_pos (q.1.symm.trans e)]; exact ⟨q.1, q.2.1, hv⟩
    · rw [if_neg e, if_neg (fun z => e (q.1.trans z))]; exact q
theorem kdr_put {K : PySem.W.Frag} {Hf : Hp} {k : NestedKey} {b : Addr} {v : V} {d : D} {xs : KX} {kvs : List (NestedKey × D)} (hk : KeyH K Hf k b) (hv : Dp K Hf v d) (h : Paired (KdR K Hf) xs kvs) : Paired (KdR K Hf) (putX xs k b v) (putD kvs k d) := by
  unfold putX putD
  rw [valD_any, kdr_some k h]
  split
  · exact kdr_map hv h
  · exact Paired.snoc h ⟨rfl, hk, hv⟩
theorem ExFs.updK {K : Kx} {Hf H : Hp} {as : List D} {p : Addr} {w : World} {ep : Nat} {xs : KX} {o : HO} (hp : H p = some (kdx w p ep xs)) (h : ExFs K Hf H as) : ExFs K Hf (L2.upd H p o) as := by
  unfold ExFs at h ⊢
  split at h
  · exact h
  · obtain ⟨vs, h1, h2, h3⟩ := h
    exact ⟨vs, by rw [upd_ne (fun z => by subst z; rw [hp] at h1; unfold kdx at h1; cases h1)]; exact h1, h2, h3⟩
theorem EnvOk.rewriteK {K : Kx} {B : Bs} {H0 Hf H : Hp} {σ : L2.St} {ρ : En} {i : Nat} {s s' : SV} {p : Addr} {ep : Nat} {xs : KX} {o : HO} (I : EnvOk K B H0 Hf H σ ρ) (e : ρ[i]? = some (some s)) (ho : s.own = true) (h1 : σ[i]? = some (some (.ref p)))
    (h2 : H p = some (kdx K.w p ep xs)) (h3 : Hf p = none) (q : RepR K Hf (upd H p o) (.ref p) s') (hs : s'.own = true) : EnvOk K B H0 Hf (upd H p o) σ (ρ.set i (some s')) := by
  have hn := I.new i _ p e ho h1
  refine ⟨⟨I.ext.f, fun b o eb => ?_, fun b o eb => ?_, I.ext.n⟩, by rw [List.length_set]; exact I.len, fun j s ej => ?_, fun j s q ej oj es => ?_, fun j k sj sk q ej oj ek ok e1 e2 => ?_, fun j ys ej => ?_⟩
  · rw [upd_ne (ne_of_none eb hn)]; exact I.ext.h _ _ eb
  · rw [upd_ne (ne_of_none eb h3)]; exact I.i _ _ eb
  · rcases set_get ej with ⟨rfl, ej, _⟩ | ⟨hj, ej⟩
    · cases ej
      exact ⟨_, h1, q⟩
    · obtain ⟨w, w1, w2⟩ := I.sl j s ej
      refine ⟨w, w1, ?_⟩
      cases s with
      | d x => exact w2
      | ol ys =>
        obtain ⟨q, us, rfl, u1, u2⟩ := w2
        have hq : q ≠ p := fun z => hj (I.sep j i _ _ p ej rfl e ho (z ▸ w1) h1)
        exact ⟨q, us, rfl, by rw [upd_ne hq]; exact u1, u2⟩
      | od ys =>
        obtain ⟨q, us, rfl, u1, u2⟩ := w2
        have hq : q ≠ p := fun z => hj (I.sep j i _ _ p ej rfl e ho (z ▸ w1) h1)
        exact ⟨q, us, rfl, by rw [upd_ne hq]; exact u1, u2⟩
      | pin ys =>
        obtain ⟨q, us, rfl, u1, u2⟩ := w2
        have hq : q ≠ p := I.pin_ne ej w1 hn
        exact ⟨q, us, rfl, by rw [upd_ne hq]; exact u1, u2⟩
      | exn n as => exact ⟨w2.1, w2.2.1, w2.2.2.updK h2⟩
      | pd ys => exact w2
      | kd ys =>
        obtain ⟨q, ep, us, rfl, u1, u2⟩ := w2
        have hq : q ≠ p := fun z => hj (I.sep j i _ _ p ej rfl e ho (z ▸ w1) h1)
        exact ⟨q, ep, us, rfl, by rw [upd_ne hq]; exact u1, u2⟩
      | sk ys => exact w2
      | sd ys => exact w2
      | so C fs => exact w2
      | rw _ _ _ _ => exact w2
      | oi C fs =>
        obtain ⟨q, dx, us, rfl, u1, u2⟩ := w2
        have hq : q ≠ p := fun z => hj (I.sep j i _ _ p ej rfl e ho (z ▸ w1) h1)
        exact ⟨q, dx, us, rfl, by rw [upd_ne hq]; exact u1, u2⟩
  · rcases set_get ej with ⟨rfl, ej, _⟩ | ⟨_, ej⟩
    · rw [h1] at es; cases es; exact hn
    · exact I.new j s q ej oj es
  · have old : ∀ {j : Nat} {t : SV}, (ρ.set i (some s'))[j]? = some (some t) → t.own = true → ∃ t', ρ[j]? = some (some t') ∧ t'.own = true := by
      intro j t ej oj
      rcases set_get ej with ⟨rfl, _, _⟩ | ⟨_, ej⟩
      · exact ⟨_, e, ho⟩
      · exact ⟨t, ej, oj⟩
    obtain ⟨sj', a1, a2⟩ := old ej oj
    obtain ⟨sk', b1, b2⟩ := old ek ok
    exact I.sep j k sj' sk' q a1 a2 b1 b2 e1 e2
  · rcases set_get ej with ⟨_, ej, _⟩ | ⟨_, ej⟩
    · cases ej; cases hs
    · exact I.pin j ys ej
section
variable {c : Ct}
def knewS : En → R SV := fun _ => .ok (.kd [])
theorem sem_knew : SemE c true (tKNew c.K.w) knewS := by
  intro B H0 Hf H σ ρ Q I o
  exact fun p ep hp => (show GE c true Hf H Q (.kd []) from o) _ Hf _ (.fresh I.i hp) ⟨p, ep, [], rfl, upd_same, I.i.free hp, .nil⟩ fun _ _ p' e => by cases e; exact hp
def kputS (i : Nat) (fk f : En → R SV) : En → R Fl := fun ρ => f ρ >>= fun r => datS r >>= fun d => match ρ[i]? with
  | some (some (.kd kvs)) => fk ρ >>= fun kk => match kdKey kk with
    | .ok k => if kvs.length < sizeLine then .ok (.nx (ρ.set i (some (.kd (putD kvs k d))))) else .bad
    | _ => .bad
  | _ => .bad
theorem sem_kput {i : Nat} {t tk : TE} {f fk : En → R SV} (h : SemE c true t f) (hk : SemE c true tk fk) : SemS c (sKPut c.K c.K.w (tVar i) tk t) (kputS i fk f) := by
  intro B H0 Hf H σ ρ Dn I o
  refine h B H0 Hf H σ ρ _ I ((Out.bind o fun a ea o1 => ?_ : Out c B H0 (f ρ) (GE c true Hf H _)).here I.ext)
  intro u Hf1 H1 x1 q1 fr
  obtain ⟨d, ed, o2⟩ := out_dat o1
  obtain ⟨Hf2, x2, q2⟩ := froze x1 q1 (fr rfl) ed
  split at o2
  rotate_left
  · exact o2.elim
  rename_i kvs e
  have I2 := I.grow x2
  obtain ⟨v, h1, p, ep, xs, rfl, h2, h3, h4⟩ := I2.sl i _ e
  refine ⟨.ref p, h1, ?_⟩
  refine hk B H0 Hf2 H1 σ ρ _ I2 ((Out.bind o2 fun kk ek o3 => ?_ : Out c B H0 (fk ρ) (GE c true Hf2 H1 _)).here I2.ext)
  intro w Hf3 H3 x3 q3 _
  split at o3
  rotate_left
  · exact o3.elim
  rename_i k ek
  obtain ⟨b, rfl, hb⟩ := kdKey_ok q3 ek
  split at o3
  rotate_left
  · exact o3.elim
  rename_i hl
  have I3 := I2.grow x3
  have h2' := x3.h _ _ h2
  have h3' := x3.still h2 h3
  have h4' := kdr_mono x3.f h4
  exact ⟨p, xs, k, b, rfl, rfl, kd_mk x3.i h2' h4', keyH_mono x3.i hb, by rw [kdr_len h4]; exact hl, fun ep' => (show GS c B H0 Dn (.nx _) from o3) _ _ _ (I3.rewriteK e rfl h1 h2' h3' ⟨p, ep', _, rfl, upd_same, h3', kdr_put hb (dp_mono x3.f q2) h4'⟩ rfl)⟩
def kgS (r kk : SV) : R SV := match kdOf r with
  | some kvs => (match kdKey kk with
    | .ok k => (match valD kvs k with
      | some d => .ok (.d d)
      | none => .bad)
    | _ => .bad)
  | none => .bad
def kget (fd fy : En → R SV) : En → R SV := fun ρ => fd ρ >>= fun r => fy ρ >>= fun kk => kgS r kk
theorem sem_kget {td ty : TE} {fd fy : En → R SV} (hd : SemE c false td fd) (hy : SemE c true ty fy) : SemE c true (tKGet c.K c.K.w td ty) (kget fd fy) := by
  intro B H0 Hf H σ ρ Q I o
  refine hd B H0 Hf H σ ρ _ I (Out.bind o fun r er o1 => fun v Hf1 H1 x1 q1 _ => ?_)
  refine hy B H0 Hf1 H1 σ ρ _ (I.grow x1) (Out.bind (o1.grow x1 fun _ g => g) fun kk ek o2 => fun u Hf2 H2 x2 q2 _ => ?_)
  unfold kgS at o2
  split at o2
  rotate_left
  · exact o2.elim
  rename_i kvs er'
  split at o2
  rotate_left
  · exact o2.elim
  rename_i k ek'
  split at o2
  rotate_left
  · exact o2.elim
  rename_i d ed
  obtain ⟨p, ep, xs, rfl, h2, h3⟩ := kdOf_ok x2.i (q1.grow x2) er'
  obtain ⟨b, rfl, hb⟩ := kdKey_ok q2 ek'
  rcases kdr_val k h3 with ⟨a1, a2⟩ | ⟨d', v', a1, a2, a3⟩
  · rw [a1] at ed; cases ed
  · rw [a1] at ed; cases ed
    exact ⟨p, xs, k, b, v', rfl, rfl, kd_mk x2.i h2 h3, keyH_mono x2.i hb, a2, GE.now (GE.grow (GE.grow (show GE c true Hf H Q _ from o2) x1) x2) x2.i a3⟩
def kg1 (kvs : List (NestedKey × D)) (kk x : SV) : R SV := match kdKey kk with
  | .ok k => (match x with
    | .d x => .ok (.d ((valD kvs k).getD x))
    | _ => .bad)
  | _ => .bad
def kget1 (fd fy : En → R SV) : En → R SV := fun ρ => fd ρ >>= fun r => match kdOf r with
  | some kvs => fy ρ >>= fun kk => kg1 kvs kk (.d .none)
  | none => .bad
def kget2 (fd fy fx : En → R SV) : En → R SV := fun ρ => fd ρ >>= fun r => match kdOf r with
  | some kvs => fy ρ >>= fun kk => fx ρ >>= fun x => kg1 kvs kk x
  | none => .bad
theorem sem_kget1 {td ty : TE} {fd fy : En → R SV} (hd : SemE c false td fd) (hy : SemE c true ty fy) : SemE c true (tKGet1 c.K c.K.w td ty) (kget1 fd fy) := by
  intro B H0 Hf H σ ρ Q I o
  refine hd B H0 Hf H σ ρ _ I (Out.bind o fun r er o1 => fun v Hf1 H1 x1 q1 _ => ?_)
  split at o1
  rotate_left
  · exact o1.elim
  rename_i kvs er'
  obtain ⟨p, ep, xs, rfl, h2, h3⟩ := kdOf_ok x1.i q1 er'
  refine ⟨p, xs, rfl, kd_mk x1.i h2 h3, ?_⟩
  refine hy B H0 Hf1 H1 σ ρ _ (I.grow x1) (Out.bind (o1.grow x1 fun _ g => g) fun kk ek o2 => fun u Hf2 H2 x2 q2 _ => ?_)
  unfold kg1 at o2
  split at o2
  rotate_left
  · exact o2.elim
  rename_i k ek'
  obtain ⟨b, rfl, hb⟩ := kdKey_ok q2 ek'
  have h3' := kdr_mono x2.f h3
  refine ⟨k, b, rfl, kd_mk x2.i (x2.h _ _ h2) h3', keyH_mono x2.i hb, ?_⟩
  have g := GE.grow (GE.grow (show GE c true Hf H Q (.d ((valD kvs k).getD .none)) from o2) x1) x2
  rcases kdr_val k h3' with ⟨a1, a2⟩ | ⟨d', v', a1, a2, a3⟩
  · rw [a1] at g; rw [a2]; exact GE.now g x2.i .non
  · rw [a1] at g; rw [a2]; exact GE.now g x2.i a3
theorem sem_kget2 {td ty tx : TE} {fd fy fx : En → R SV} (hd : SemE c false td fd) (hy : SemE c true ty fy) (hx : SemE c false tx fx) : SemE c true (tKGet2 c.K c.K.w td ty tx) (kget2 fd fy fx) := by
  intro B H0 Hf H σ ρ Q I o
  refine hd B H0 Hf H σ ρ _ I (Out.bind o fun r er o1 => fun v Hf1 H1 x1 q1 _ => ?_)
  split at o1
  rotate_left
  · exact o1.elim
  rename_i kvs er'
  obtain ⟨p, ep, xs, rfl, h2, h3⟩ := kdOf_ok x1.i q1 er'
  refine ⟨p, xs, rfl, kd_mk x1.i h2 h3, ?_⟩
  refine hy B H0 Hf1 H1 σ ρ _ (I.grow x1) (Out.bind (o1.grow x1 fun _ g => g) fun kk ek o2 => fun u Hf2 H2 x2 q2 _ => ?_)
  refine hx B H0 Hf2 H2 σ ρ _ ((I.grow x1).grow x2) (Out.bind (o2.grow x2 fun _ g => g) fun x ex o3 => fun z Hf3 H3 x3 q3 _ => ?_)
  unfold kg1 at o3
  split at o3
  rotate_left
  · exact o3.elim
  rename_i k ek'
  split at o3
  rotate_left
  · exact o3.elim
  obtain ⟨b, rfl, hb⟩ := kdKey_ok q2 ek'
  have h3' := kdr_mono (x2.f.trans x3.f) h3
  refine ⟨k, b, rfl, kd_mk x3.i (x3.h _ _ (x2.h _ _ h2)) h3', keyH_mono (x3.f.trans x3.i) hb, ?_⟩
  have g := GE.grow (GE.grow (GE.grow (show GE c true Hf H Q _ from o3) x1) x2) x3
  rcases kdr_val k h3' with ⟨a1, a2⟩ | ⟨d', v', a1, a2, a3⟩
  · rw [a1] at g; rw [a2]; exact GE.now g x3.i q3
  · rw [a1] at g; rw [a2]; exact GE.now g x3.i a3
def kinS (neg : Bool) (kk r : SV) : R SV := match kdKey kk with
  | .ok k => (match kdOf r with
    | some kvs => .ok (.d (.bool (if neg then !(valD kvs k).isSome else (valD kvs k).isSome)))
    | none => .bad)
  | _ => .bad
def kin (neg : Bool) (fy fd : En → R SV) : En → R SV := fun ρ => fy ρ >>= fun kk => fd ρ >>= fun r => kinS neg kk r
theorem sem_kin_core {neg : Bool} {td ty : TE} {fd fy : En → R SV} (hy : SemE c true ty fy) (hd : SemE c false td fd) {B : Bs} {H0 Hf H : Hp} {σ : L2.St} {ρ : En} {Q : VK} (I : EnvOk c.K B H0 Hf H σ ρ) (o : Out c Hf H (kin neg fy fd ρ) (GE c true Hf H Q)) :
    ty σ H fun y H1 => td σ H1 fun x H2 => ∃ a xs k b, x = .ref a ∧ y = .ref b ∧ KD c.K c.K.w H2 a xs ∧ KeyH c.K H2 k b ∧ Q (.bl (if neg then !(valX xs k).isSome else (valX xs k).isSome)) H2 := by
  refine hy B H0 Hf H σ ρ _ I (Out.bind o fun kk ek o1 => fun v Hf1 H1 x1 q1 _ => ?_)
  refine hd B H0 Hf1 H1 σ ρ _ (I.grow x1) (Out.bind (o1.grow x1 fun _ g => g) fun r er o2 => fun u Hf2 H2 x2 q2 _ => ?_)
  unfold kinS at o2
  split at o2
  rotate_left
  · exact o2.elim
  rename_i k ek'
  split at o2
  rotate_left
  · exact o2.elim
  rename_i kvs er'
  obtain ⟨p, ep, xs, rfl, h2, h3⟩ := kdOf_ok x2.i q2 er'
  obtain ⟨b, rfl, hb⟩ := kdKey_ok q1 ek'
  refine ⟨p, xs, k, b, rfl, rfl, kd_mk x2.i h2 h3, keyH_mono (x2.f.trans x2.i) hb, ?_⟩
  rw [kdr_some k h3]
  exact GE.now (GE.grow (GE.grow (show GE c true Hf H Q _ from o2) x1) x2) x2.i (.bl _)
theorem sem_kin {td ty : TE} {fd fy : En → R SV} (hy : SemE c true ty fy) (hd : SemE c false td fd) : SemE c true (tKIn c.K c.K.w ty td) (kin false fy fd) := fun _ _ _ _ _ _ _ I o => sem_kin_core (neg := false) hy hd I o
theorem sem_kNotIn {td ty : TE} {fd fy : En → R SV} (hy : SemE c true ty fy) (hd : SemE c false td fd) : SemE c true (tKNotIn c.K c.K.w ty td) (kin true fy fd) := fun _ _ _ _ _ _ _ I o => sem_kin_core (neg := true) hy hd I o
/-! ### a walk over a shared dict -/
def kkeysD (i : Nat) : En → R (List D) := fun ρ => match ρ[i]? with
  | some (some (.sk kvs)) => .ok (kvs.map fun kv => kv.1.data)
  | _ => .bad
theorem kdr_at {K : PySem.W.Frag} {Hf : Hp} {xs : KX} {kvs : List (NestedKey × D)} {i : Nat} {x : NestedKey × Addr × V} (h : Paired (KdR K Hf) xs kvs) (e : xs[i]? = some x) : ∃ kv, kvs[i]? = some kv ∧ KdR K Hf x kv := paired_get h e
theorem sem_kkeysI {i : Nat} : SemI c (iKKeys c.K.w (tVar i)) (kkeysD i) := by
  intro B H0 Hf H σ ρ Rr I o
  unfold kkeysD at o
  split at o
  rotate_left
  · exact o.elim
  rename_i kvs e
  obtain ⟨v, h1, p, ep, xs, rfl, h2, h3⟩ := I.sl i _ e
  refine ⟨.ref p, h1, p, ep, xs, rfl, I.i _ _ h2, ?_⟩
  refine o _ Hf H (.refl I.i) ⟨fun i H x H' => H' = H ∧ ∃ y, xs[i]? = some y ∧ x = .ref y.2.1, ?_, fun j H x H' Hfi hi s1 s2 y => ?_⟩
  · rw [List.length_map, ← kdr_len h3]
    exact walk_kd.mono (fun H e => e _ _ h2) fun _ _ _ _ _ _ y => y
  · obtain ⟨rfl, y, e1, rfl⟩ := y
    obtain ⟨kv, e2, e3⟩ := kdr_at h3 e1
    refine ⟨kv.1.data, Hfi, by rw [List.getElem?_map, e2]; rfl, .refl s2, ?_⟩
    rw [← e3.1]
    exact dp_mono s1 e3.2.1.1
end
end Pl
/-! PlE: list.insert; list(d), sorted(d), len(d) of dicts; defs whose arguments may be shared dicts or instances (spG). -/
namespace Pl
open PySem PySem.Spec PyProof.Rows L2
/-! ### x.insert(k, e) -/
def rInsL : V → List V → Hp → VK → Prop := fun x vs H Q => ∃ (l : Addr) (xs : List V) (i : Int) (y : V), x = .ref l ∧ vs = [.int i, y] ∧ H l = some (.lst xs) ∧ xs.length < sizeLine ∧ 0 ≤ i ∧ i < 2 ^ 63 ∧
    Q .non (upd H l (.lst (xs.take i.toNat ++ [y] ++ xs.drop i.toNat)))
theorem mt_insL {X : Cx} : MtR X "list.insert" rInsL := mt_insert
section
variable {c : Ct}
def insS (i : Nat) (fk f : En → R SV) : En → R Fl := fun ρ => fk ρ >>= fun kk => f ρ >>= fun r => datS r >>= fun d => match kk, ρ[i]? with
  | .d (.int k), some (some (.ol xs)) => if 0 ≤ k ∧ k ≤ xs.length ∧ xs.length < sizeLine then .ok (.nx (ρ.set i (some (.ol (xs.take k.toNat ++ [d] ++ xs.drop k.toNat))))) else .bad
  | _, _ => .bad
def insAt (i : Nat) (fk f : En → R SV) : En → R Fl := fun ρ => match ρ[i]? with
  | some (some (.ol _)) => insS i fk f ρ
  | _ => .bad
theorem line63 : sizeLine < 2 ^ 62 := by rw [sizeLine_eq]; decide
theorem sem_ins {i : Nat} {tk t : TE} {fk f : En → R SV} (hk : SemE c false tk fk) (h : SemE c true t f) : SemS c (tDrop (tBM c.K "list" rInsL (tVar i) (tCons tk (tCons t tNil)))) (insAt i fk f) := by
  intro B H0 Hf H σ ρ Dn I o
  unfold insAt at o
  split at o
  rotate_left
  · exact o.elim
  rename_i xs e
  obtain ⟨v, h1, p, vs, rfl, h2, h3, h4⟩ := I.sl i _ e
  refine ⟨.ref p, h1, .inl ⟨rfl, vs, .inl (.inl h2)⟩, ?_⟩
  unfold insS at o
  refine hk B H0 Hf H σ ρ _ I ((Out.bind o fun kk ek o0 => ?_ : Out c B H0 (fk ρ) (GE c false Hf H _)).here I.ext)
  intro kv Hf0 H00 x0 q0 _
  refine h B H0 Hf0 H00 σ ρ _ (I.grow x0) ((Out.bind o0 fun a ea o1 => ?_ : Out c B H0 (f ρ) (GE c true Hf0 H00 _)).here (I.grow x0).ext)
  intro u Hf1 H1 x1 q1 fr
  obtain ⟨d, ed, o2⟩ := out_dat o1
  obtain ⟨Hf2, x2, q2⟩ := froze x1 q1 (fr rfl) ed
  split at o2
  rotate_left
  · exact o2.elim
  rename_i k xs' e' _z
  rw [e] at e'
  cases e'
  split at o2
  rotate_left
  · exact o2.elim
  rename_i hlen
  cases q0
  have xx := x0.trans x2
  have h2' := xx.h _ _ h2
  have h3' := xx.still h2 h3
  have hz := line63
  refine ⟨p, vs, k, u, rfl, rfl, h2', by rw [dpAll_len h4]; exact hlen.2.2, hlen.1, by omega, ?_⟩
  exact (show GS c B H0 Dn (.nx _) from o2) _ _ _ ((I.grow xx).rewrite e h1 h2' h3' (dpAll_append (dpAll_append (dpAll_take _ (dpAll_mono xx.f h4)) (.cons q2 .nil)) (dpAll_drop _ (dpAll_mono xx.f h4))))
/-! ### the keys of a dict as a row -/
def keysV : SV → Option (List D)
  | .od kvs => some (kvs.map fun kv => keyD kv.1)
  | .sd kvs => some (kvs.map fun kv => keyD kv.1)
  | .kd kvs => some (kvs.map fun kv => kv.1.data)
  | .sk kvs => some (kvs.map fun kv => kv.1.data)
  | _ => none
theorem dkv_keys {K : PySem.W.Frag} {Hf : Hp} : ∀ {ws : List (Key × V)} {ks : List (Key × D)}, DpKV K Hf ws ks → DpAll K Hf (ws.map fun kv => kV kv.1) (ks.map fun kv => keyD kv.1)
  | _, _, .nil => .nil
  | _, _, .cons (a := a) (b := b) q r => .cons (by show Dp K Hf (kV a.1) (keyD b.1); rw [q.1]; exact keyD_ok b.1) (dkv_keys r)
theorem kdr_keys {K : PySem.W.Frag} {Hf : Hp} : ∀ {xs : KX} {kvs : List (NestedKey × D)}, Paired (KdR K Hf) xs kvs → DpAll K Hf (xs.map fun x => V.ref x.2.1) (kvs.map fun kv => kv.1.data)
  | _, _, .nil => .nil
  | _, _, .cons (a := a) (b := b) q r => .cons (by show Dp K Hf (.ref a.2.1) b.1.data; rw [← q.1]; exact q.2.1.1) (kdr_keys r)
theorem keysV_ok {K : Kx} {Hf H : Hp} {v : V} {r : SV} {ds : List D} (i : Same Hf H) (q : RepR K Hf H v r) (e : keysV r = some ds) : ∃ p ks, v = .ref p ∧ KRow K.w H p ks ∧ DpAll K Hf ks ds := by
  cases r with
  | od ks => cases e; obtain ⟨p, ws, h, h1, _, h3⟩ := q; exact ⟨p, _, h, .inl ⟨ws, .inl h1, rfl⟩, dkv_keys h3⟩
  | sd ks => cases e; obtain ⟨p, ws, h, h1, h3⟩ := q; exact ⟨p, _, h, .inl ⟨ws, .inl (i _ _ h1), rfl⟩, dkv_keys h3⟩
  | kd ks => cases e; obtain ⟨p, ep, xs, h, h1, _, h3⟩ := q; exact ⟨p, _, h, .inr ⟨ep, xs, h1, rfl⟩, kdr_keys h3⟩
  | sk ks => cases e; obtain ⟨p, ep, xs, h, h1, h3⟩ := q; exact ⟨p, _, h, .inr ⟨ep, xs, i _ _ h1, rfl⟩, kdr_keys h3⟩
  | _ => cases e
theorem raw_keys {X : Cx} {pins : List (Addr × Obj)} {σ : L2.St} {H : Hp} {s : Shared} {a : Addr} {ks : List V} (I : Inv X pins σ H s) (h : KRow X.w H a ks) :
    (a == sysModules) = false ∧ ∃ es ep, s.heap.DictRaw a es ep ∧ es.size = ks.length ∧ ks.length ≤ sizeLine ∧ ∀ (i : Nat) (hi : i < es.size), ∃ x, ks[i]? = some x ∧ RelV x es[i].key := by
  rcases h with ⟨kvs, e, rfl⟩ | ⟨ep, xs, e, rfl⟩
  · obtain ⟨z, hd, vs, rel, dd⟩ := dk_rd I.hok e
    obtain ⟨es, ep, hr, hs, he⟩ := dd.raw
    have hl : kvs.length = vs.length := Paired.length rel
    refine ⟨hd, es, ep, hr, by rw [List.length_map, hs, hl], by rw [List.length_map]; exact z, fun i hi => ?_⟩
    have hx : i < kvs.length := by omega
    obtain ⟨u, hu, _⟩ := kv_get rel (i := i) (k := kvs[i].1) (v := kvs[i].2) (List.getElem?_eq_getElem hx)
    obtain ⟨h1, _⟩ := he i hi _ _ hu
    exact ⟨kV kvs[i].1, by rw [List.getElem?_map, List.getElem?_eq_getElem hx]; rfl, relV_key h1⟩
  · obtain ⟨l, n, ys, o, es, r, ho, hx, hdt, he, hn⟩ := (I.hok a _ e).1
    have hsz : es.size = xs.length := by rw [← Array.length_toList, he, List.length_map, ← Paired.length r]
    refine ⟨n, es, ep, ⟨o, ho, hx, hdt⟩, by rw [List.length_map, hsz], by rw [List.length_map]; exact l, fun i hi => ?_⟩
    have hi' : i < xs.length := by omega
    obtain ⟨y, hy, k1, k2, k3⟩ := krel_at r (List.getElem?_eq_getElem hi')
    have hen : es[i]? = some (entN X.w y) := by rw [← Array.getElem?_toList, he, List.getElem?_map, hy]; rfl
    rw [Array.getElem?_eq_getElem hi] at hen
    refine ⟨.ref xs[i].2.1, by rw [List.getElem?_map, List.getElem?_eq_getElem hi']; rfl, ?_⟩
    rw [Option.some.inj hen]
    show Value.ref _ = Value.ref _
    rw [k2]
theorem vals_of_at : ∀ {ks : List V} {us : List Value}, us.length = ks.length → (∀ (i : Nat) (u : Value), us[i]? = some u → ∃ x, ks[i]? = some x ∧ RelV x u) → Vals ks us
  | [], [], _, _ => .nil
  | [], _ :: _, h, _ => by simp at h
  | _ :: _, [], h, _ => by simp at h
  | k :: ks, u :: us, h, f => by
    obtain ⟨x, h1, h2⟩ := f 0 u rfl
    simp at h1
    subst h1
    exact .cons h2 (vals_of_at (by simpa using h) fun i w e => by simpa using f (i + 1) w (by simpa using e))
theorem items_vals {ks : List V} {es : Array DictEntry} {acc : Array Value} (hs : es.size = ks.length) (he : ∀ (i : Nat) (hi : i < es.size), ∃ x, ks[i]? = some x ∧ RelV x es[i].key)
    (h : ItemsOf (fun i v => ∃ hi : i < es.size, v = es[i].key) acc es.size) : Vals ks acc.toList := by
  refine vals_of_at (by rw [Array.length_toList, h.1, hs]) fun i u e => ?_
  obtain ⟨hi, rfl⟩ := h.2 i u (by rw [← Array.getElem?_toList]; exact e)
  exact he i hi
def rListK (w : World) : List V → Hp → VK → Prop := fun xs H Q => ∃ a ks, xs = [.ref a] ∧ KRow w H a ks ∧ ∀ p, H p = none → Q (.ref p) (upd H p (.lst ks))
theorem cb_listK {X : Cx} (hc : X.calm = true) : CallR X (.type "list") (rListK X.w) := by
  intro pins s σ H xs us Q I r h
  obtain ⟨a, ks, rfl, hr, q⟩ := h
  obtain rfl := Vals.ref1 r
  obtain ⟨n, es, ep, dr, hs, hl, he⟩ := raw_keys I hr
  refine PySem.W.kdl_call (PySem.KdlSrc.rawDict (es := es) (ep := ep) n) (I.ok.hd hc) dr (by rw [hs]; exact hl) fun h' tk acc' c' hk hD hacc => ?_
  have hv := items_vals hs he hacc
  exact ⟨.ref s.heap.objs.size, upd H s.heap.objs.size (.lst ks), I.laid (t' := tk) hk (Nat.le_refl _) ⟨hl, acc'.toList, c', hv, by rw [Array.toArray_toList]; exact hD⟩, rfl, q _ (I.hok.fresh (Nat.le_refl _))⟩
def listKS : List SV → R SV
  | [a] => (match keysV a with
    | some ds => .ok (.ol ds)
    | none => .bad)
  | _ => .bad
theorem c1_listK : C1ok c (rListK c.K.w) listKS := by
  intro Hf H vs rs Q i h o
  unfold listKS at o
  split at o
  · rename_i a
    cases h with
    | cons q b =>
      cases b
      split at o
      · rename_i ds e
        obtain ⟨p, ks, rfl, h1, h2⟩ := keysV_ok i q e
        exact ⟨p, ks, rfl, h1, fun l hl => GE.newL o i hl h2⟩
      · exact o.elim
  · exact o.elim
/-! ### sorted(d) -/
section
open PySem.W PySem.Calls
variable {prog : Program} {w : World} {A : Around} {E : Value → Shared → Prop} {s : Shared} {T : String} {r d : Addr} {n : Nat} {P : Nat → Value → Prop} {OK : Heap → Prop}
theorem collectK {R : List Value → Shared → Prop} (K : KdlSrc prog w T r d n P OK) (hh : A.handled = none) (hok : OK s.heap) (hn : n ≤ sizeLine)
    (h : ∀ (h' : Heap) (tk : Nat) (acc : Array Value), (∀ b o, s.heap.get? b = some o → h'.get? b = some o) → s.heap.objs.size < h'.objs.size → ItemsOf P acc n → R acc.toList { s with heap := h', toks := tk }) :
    wpAny (model prog w) A (collect (.ref r)) R E s := by
  have hlt := K.there _ hok
  unfold collect
  refine wpAny_bind (wpAny_runValue (codeAny_builtin entry_proto_collect' ?_))
  rw [Around.under_plainId PySem.F.plain_proto_collect _]
  show wpAny _ A.in1 (newList [] >>= fun l => again (.builtin "list.__iadd__" ⟨[l, .ref r], []⟩)) _ _ s
  refine wpAny_bind (wpAny_newObj_type ?_)
  refine wpAny_pure ⟨plainId_quiet PySem.F.plain_list_iadd _, codeAny_builtin entry_list_iadd' ?_⟩
  rw [Around.under_plainId PySem.F.plain_list_iadd _]
  have hS₁ : (s.heap.push { cls := .type "list", data := .seq ([] : List Value).toArray }).get? s.heap.objs.size = some { cls := .type "list", data := .seq #[] } := Heap.get?_push_size _ rfl
  show wpAny _ A.in1 (Builtin.List.listExtendWith (.ref s.heap.objs.size) (.ref r) (.ref s.heap.objs.size)) _ _ _
  have key := kdl_extend (prog := prog) (w := w) (A := A) (s := { s with heap := s.heap.push { cls := .type "list", data := .seq ([] : List Value).toArray } })
    (R := fun (q : Result) (s' : Shared) => ∃ (h' : Heap) (tk : Nat) (acc' : Array Value) (c' : Nat), q = .ok (.ret (.ref s.heap.objs.size)) ∧ s' = { s with heap := h', toks := tk } ∧
      (∀ b o, s.heap.get? b = some o → h'.get? b = some o) ∧ h'.get? s.heap.objs.size = some { cls := .type "list", dict := none, data := .seq acc' c', slots := #[] } ∧ ItemsOf P acc' n)
    K hh (K.keep _ _ hok fun b _ o e => Heap.get?_push_of_some _ e) s.heap.objs.size (Nat.ne_of_gt hlt.1) (Nat.ne_of_gt hlt.2) (.ref s.heap.objs.size) 0 hS₁
    (fun h' tk acc' c' hk hS' hacc => ⟨h', tk, acc', c', rfl, rfl, fun b o e => hk b o (Nat.ne_of_lt (Heap.lt_size e)) (Heap.get?_push_of_some _ e), hS', hacc⟩) hn
  refine wpAny_mono key (fun fin s' x => ?_) fun e s' x => ?_
  · cases fin with
    | done f =>
      obtain ⟨h', tk, acc', c', e, rfl, hk, hS', hacc⟩ := x
      cases e
      show wpAny _ A (load s.heap.objs.size >>= _) _ _ _
      refine wpAny_bind (wpAny_load hS' ?_)
      exact wpAny_pure (h h' tk acc' hk (Heap.lt_size hS') hacc)
    | again c₁ =>
      refine ⟨x.1, codeAny_mono x.2 fun q s₂ y => ?_⟩
      obtain ⟨h', tk, acc', c', rfl, rfl, hk, hS', hacc⟩ := y
      show wpAny _ A (load s.heap.objs.size >>= _) _ _ _
      refine wpAny_bind (wpAny_load hS' ?_)
      exact wpAny_pure (h h' tk acc' hk (Heap.lt_size hS') hacc)
  · obtain ⟨_, _, _, _, e', _⟩ := x
    cases e'
theorem sortedKd {Q : Value → Shared → Prop} (K : KdlSrc prog w T r d n P OK) (hh : A.handled = none) (hok : OK s.heap) (hn : n ≤ sizeLine)
    (h : ∀ (h' : Heap) (tk : Nat) (acc : Array Value), (∀ b o, s.heap.get? b = some o → h'.get? b = some o) → s.heap.objs.size < h'.objs.size → ItemsOf P acc n →
      wpAny (model prog w) A.in1 (call (.builtin "list.sort") [.ref h'.objs.size]) (fun _ s' => Q (.ref h'.objs.size) s') E { s with heap := h'.push { cls := .type "list", data := .seq acc.toList.toArray }, toks := tk }) :
    wpAny (model prog w) A (call (.builtin "sorted") [.ref r]) Q E s := by
  refine call_function_entry kind_sorted plain_sorted entry_sorted (args_sorted1 _) ?_
  unfold Builtin.«sorted»
  refine wpAny_bind (m := checkCount "sorted" 1 1 _) (wpAny_pure ?_)
  refine wpAny_bind (collectK (A := A.in1) K hh hok hn fun h' tk acc hk hlt hacc => ?_)
  refine wpAny_bind (wpAny_newList ?_ (by rw [Array.length_toList, hacc.1]; exact hn))
  have hg := h h' tk acc hk hlt hacc
  refine wpAny_bind (wpAny_holding (wpAny_mono hg (fun _ s' x => ?_) fun _ _ e => e))
  exact wpAny_pure ⟨_, rfl, x⟩
theorem sortD_list {β : Type} {vs : List Value} {bs : List β} {enc : β → PyData} {R : Value → β → Prop} {a : Addr} {n : Nat} {Q : Value → Shared → Prop} (ho : s.heap.get? a = some (seqObj "list" vs.toArray n)) (e : EachIs R vs bs) (er : EachIs (fun v b => ∃ as, Reads s.heap v (enc b) as ∧ a ∉ as) vs bs) (hal : AllAlike (bs.map enc)) (hk : Srt (bs.map enc)) (hL : bs.length ≤ sizeLine)
    (hu : ∀ b, b ∈ bs → A.units + 1 + (enc b).depth < cLine) (h : ∀ out, out.length = bs.length → EachIs R out (bs.mergeSort (dataLe false enc)) → Q .none { s with heap := sortedHeap s.heap a vs (List.toArray out) }) :
    wpAny (model prog w) A (call (.builtin "list.sort") [.ref a]) Q E s := by
  have er' : EachIs (fun v b => ∃ as, Reads (sortingHeap s.heap a vs) v (enc b) as) vs bs := each_keepBut (h' := sortingHeap s.heap a vs) (fun _ _ hb q => sortingHeap_old hb q) (fun o q => by rw [ho] at q; rw [← Option.some.inj q]) hal er
  refine wpAny_call_entry slot_list_sort ⟨_, ho, rfl⟩ entry_list_sort (list_sort_vals (κ := dataKind (sortingHeap s.heap a vs) (bs.map enc)) ho (sortsD (s := { s with heap := sortingHeap s.heap a vs }) (each_map (R := fun v d => ∃ as, Reads (sortingHeap s.heap a vs) v d as) enc er') hal hk (bound_map hu)) (by rw [e.length]; exact hL) ⟨.none, rfl, ?_⟩) (args_list_sort _)
  exact h _ (by rw [sortVals_length false rfl]; exact e.length) (sortVals_data false e er' hal)
end
mutual
def noL : D → Bool
  | .list _ => false
  | .tuple ds => noLs ds
  | .dict _ => false
  | .none => true
  | .bool _ => true
  | .int _ => true
  | .str _ => true
def noLs : List D → Bool
  | [] => true
  | d :: ds => noL d && noLs ds
end
mutual
theorem reads_noL {h : Heap} : ∀ (d : D) (v : Value) (as : List Addr), noL d = true → Reads h v d as → as = []
  | .none, _, _, _, r => by cases r; rfl
  | .bool _, _, _, _, r => by cases r; rfl
  | .int _, _, _, _, r => by cases r; rfl
  | .str _, _, _, _, r => by cases r; rfl
  | .list _, _, _, n, _ => by unfold noL at n; cases n
  | .dict _, _, _, n, _ => by unfold noL at n; cases n
  | .tuple ds, _, _, n, r => by
    unfold noL at n
    cases r with
    | tuple h1 h2 h3 h4 => exact reads_noLs ds _ _ n h4
theorem reads_noLs {h : Heap} : ∀ (ds : List D) (vs : List Value) (as : List Addr), noLs ds = true → ReadsAll h vs ds as → as = []
  | [], _, _, _, r => by cases r; rfl
  | d :: ds, _, _, n, r => by
    unfold noLs at n
    rw [Bool.and_eq_true] at n
    cases r with
    | cons h1 h2 => rw [reads_noL d _ _ n.1 h1, reads_noLs ds _ _ n.2 h2]; rfl
end
def rSortK (K : PySem.W.Frag) (w : World) : List V → Hp → VK → Prop := fun xs H Q => ∃ a ks ds, xs = [.ref a] ∧ KRow w H a ks ∧ DpAll K H ks ds ∧ noLs ds = true ∧ PySem.W.AllAlike ds ∧ Srt ds ∧ (∀ d ∈ ds, d.depth ≤ 60) ∧
  ∀ p, H p = none → Q (.ref p) (upd H p (.lst (sortV ks ds)))
theorem noLs_mem {d : D} : ∀ {ds : List D}, noLs ds = true → d ∈ ds → noL d = true
  | [], _, h => by cases h
  | e :: ds, n, h => by
    unfold noLs at n
    rw [Bool.and_eq_true] at n
    rcases List.mem_cons.mp h with rfl | h
    · exact n.1
    · exact noLs_mem n.2 h
theorem cb_sortK {X : Cx} (hc : X.calm = true) (hu : X.A.units + 65 < cLine) : CallR X (.builtin "sorted") (rSortK X.K X.w) := by
  intro pins s σ H xs us Q I r h
  obtain ⟨a, ks, ds, rfl, hr, hd, hnl, hal, hk, hdp, q⟩ := h
  obtain rfl := Vals.ref1 r
  obtain ⟨n, es, ep, dr, hs, hl, he⟩ := raw_keys I hr
  refine sortedKd (PySem.KdlSrc.rawDict (es := es) (ep := ep) n) (I.ok.hd hc) dr (by rw [hs]; exact hl) fun h' tk acc hkp hlt hacc => ?_
  have hv := items_vals hs he hacc
  have I1 : Inv X pins σ H { s with heap := h', toks := tk } := I.kept hkp
  obtain ⟨e1, e2⟩ := each_zip I1 hd hv
  have hds := zip_snd hd
  have hlen : (ks.zip ds).length = ds.length := by rw [← hds, List.length_map]; rw [hds]
  have hkl : ds.length = ks.length := (dpAll_len hd).symm
  have ho : (h'.push (seqObj "list" acc.toList.toArray 0)).get? h'.objs.size = some (seqObj "list" acc.toList.toArray 0) := Heap.get?_push_size _ rfl
  refine sortD_list (s := { s with heap := h'.push (seqObj "list" acc.toList.toArray 0), toks := tk }) (bs := ks.zip ds) (enc := Prod.snd) ho e1 ((PySem.W.each_mem e2).mono fun v b rd => ?_) (by rw [hds]; exact hal) (by rw [hds]; exact hk) (by rw [hlen, hkl]; exact hl) (fun b hb => ?_) fun out hout eo => ?_
  · obtain ⟨⟨as, rd⟩, hb⟩ := rd
    have hb' : b.2 ∈ ds := by rw [← hds]; exact List.mem_map_of_mem hb
    have ea := reads_noL _ _ _ (noLs_mem hnl hb') rd
    subst ea
    exact ⟨[], PyProof.Rows.Reads.keeps (fun _ _ e => Heap.get?_push_of_some _ e) rd, fun z => nomatch z⟩
  · have : b.2 ∈ ds := by rw [← hds]; exact List.mem_map_of_mem hb
    have := hdp _ this
    show X.A.units + 1 + 1 + _ < cLine
    omega
  · obtain ⟨ep', he'⟩ := PyProof.Rows.sortedHeap_at (out := out.toArray) ho
    have hv2 := each_vals eo
    have hl2 : (sortV ks ds).length ≤ sizeLine := by
      have := hv2.length
      unfold sortV
      rw [this, hout, hlen, hkl]; exact hl
    refine ⟨.ref h'.objs.size, upd H h'.objs.size (.lst (sortV ks ds)), I.laid (t' := tk) (fun b u e => ?_) (Nat.le_of_lt hlt) ⟨hl2, out, ep', hv2, he'⟩, rfl, q _ (I.hok.fresh (Nat.le_of_lt hlt))⟩
    have e1 := hkp _ _ e
    have hlt' := Heap.lt_size e1
    exact (PyProof.Rows.sortedHeap_old (Nat.ne_of_lt hlt') (by rw [PyProof.Rows.size_push']; exact Nat.lt_succ_of_lt hlt')).trans (Heap.get?_push_of_some _ e1)
def sortKS : List SV → R SV
  | [a] => (match keysV a with
    | some ds => if noLs ds = true ∧ allAlike ds = true ∧ sortable ds = true ∧ (ds.all fun d => decide (d.depth ≤ 60)) = true then .ok (.ol (sortD ds)) else .bad
    | none => .bad)
  | _ => .bad
theorem c1_sortK : C1ok c (rSortK c.K c.K.w) sortKS := by
  intro Hf H vs rs Q i h o
  unfold sortKS at o
  split at o
  · rename_i a
    cases h with
    | cons q b =>
      cases b
      split at o
      · rename_i ds e
        split at o
        · rename_i hc
          obtain ⟨p, ks, rfl, h1, h2⟩ := keysV_ok i q e
          exact ⟨p, ks, ds, rfl, h1, dpAll_mono i h2, hc.1, allAlike_of hc.2.1, sortable_of hc.2.2.1, fun d hd => of_decide_eq_true (List.all_eq_true.mp hc.2.2.2 d hd), fun l hl => GE.newL o i hl (sort_dp h2)⟩
        · exact o.elim
      · exact o.elim
  · exact o.elim
end
end Pl
/-! PlF: len(d); < of alike data; defs whose arguments may be shared dicts or instances (spG). -/
namespace Pl
open PySem PySem.Spec PyProof.Rows L2
section
variable {c : Ct}
/-! ### len(d) -/
def rLenK (w : World) : List V → Hp → VK → Prop := fun xs H Q => ∃ a ks, xs = [.ref a] ∧ KRow w H a ks ∧ Q (.int ks.length) H
theorem cb_lenK {X : Cx} : CallR X (.builtin "len") (rLenK X.w) := by
  intro pins s σ H xs us Q I r h
  obtain ⟨a, ks, rfl, hr, q⟩ := h
  obtain rfl := Vals.ref1 r
  obtain ⟨n, es, ep, dr, hs, hl, he⟩ := raw_keys I hr
  rw [sizeLine_eq] at hl
  refine PyProof.Rows.call_len_slot (n := ks.length) dr.typeIs PySem.F.slot_dict_len (fun Q' hq => PySem.call_len_raw n dr (by rw [hs]; exact hq)) (by omega) (by omega) ?_
  exact ⟨.int ks.length, H, I.tok _, ⟨_, rfl⟩, q⟩
def lenKS : List SV → R SV
  | [a] => (match keysV a with
    | some ds => .ok (.d (.int ds.length))
    | none => .bad)
  | _ => .bad
theorem c1_lenK : C1ok c (rLenK c.K.w) lenKS := by
  intro Hf H vs rs Q i h o
  unfold lenKS at o
  split at o
  · rename_i a
    cases h with
    | cons q b =>
      cases b
      split at o
      · rename_i ds e
        obtain ⟨p, ks, rfl, h1, h2⟩ := keysV_ok i q e
        refine ⟨p, ks, rfl, h1, ?_⟩
        rw [dpAll_len h2]
        exact GE.now o i (.int _)
      · exact o.elim
  · exact o.elim
/-! ### < of alike data -/
def ltOk (d e : D) : Bool := PySem.W.alike d e && !isN d && decide (d.depth ≤ 60)
def rLtD (K : PySem.W.Frag) : R2 := fun x y H Q => ∃ d e, Dp K H x d ∧ Dp K H y e ∧ ltOk d e = true ∧ Q (.bl (PySem.W.dataLt d e)) H
theorem op_ltD {X : Cx} (hu : X.A.units + 65 < cLine) : OpR X (compareOp .Lt) (rLtD X.K) := by
  intro pins s σ H x y v u Q I rx ry h
  obtain ⟨d, e, hd, he, ok, q⟩ := h
  unfold ltOk at ok
  rw [Bool.and_eq_true, Bool.and_eq_true] at ok
  obtain ⟨as, r1⟩ := Dp.reads I d x v hd rx
  obtain ⟨bs, r2⟩ := Dp.reads I e y u he ry
  have hdp := of_decide_eq_true ok.2
  refine PySem.W.rcLt_alike d e X.A s v u as bs r1 r2 ok.1.1 (fun z => ?_) ?_ X.prog X.w _ _ ⟨.bl _, H, I, rfl, q⟩
  · subst z; simp [isN] at ok
  · have := Nat.min_le_left d.depth e.depth
    omega
def ltG (a b : SV) : R SV := datS a >>= fun x => datS b >>= fun y => if ltOk x y = true then .ok (.d (.bool (PySem.W.dataLt x y))) else .bad
theorem r2_ltG : R2ok c (rLtD c.K) ltG := by
  intro Hf H x y rx ry Q i hx hy o
  unfold ltG at o
  cases e1 : datS rx with
  | ok d =>
    cases e2 : datS ry with
    | ok e =>
      simp only [e1, e2, ok_bind] at o
      split at o
      · rename_i h; exact ⟨d, e, looked (c := c) i hx e1, looked (c := c) i hy e2, h, GE.now o i (.bl _)⟩
      · exact o.elim
    | ex n as => cases ry <;> cases e2
    | bad => simp only [e1, e2, ok_bind, bad_bind] at o; exact o.elim
  | ex n as => cases rx <;> cases e1
  | bad => simp only [e1, bad_bind] at o; exact o.elim
/-! ### arguments that may be shared dicts or instances -/
def isShr : SV → Bool
  | .d _ => true
  | .sk _ => true
  | .sd _ => true
  | .so _ _ => true
  | _ => false
def shrS : SV → R SV
  | .d x => .ok (.d x)
  | .ol xs => .ok (.d (.list xs))
  | .kd xs => .ok (.sk xs)
  | .od xs => .ok (.sd xs)
  | .oi C xs => .ok (.so C xs)
  | .sk xs => .ok (.sk xs)
  | .sd xs => .ok (.sd xs)
  | .so C xs => .ok (.so C xs)
  | _ => .bad
theorem shr_ext {Hf H Hf' H' : Hp} {p : Addr} {o : HO} (x : Ext Hf H Hf' H') (h1 : H' p = some o) (h2 : Hf' p = none) (fr : H p = none) : Ext Hf H (upd Hf' p o) H' :=
  ⟨x.f.trans (upd_grow h2), x.h, fun b o' e => by
    by_cases hb : b = p
    · subst hb; rw [upd_same] at e; cases e; exact h1
    · rw [upd_ne hb] at e; exact x.i _ _ e, fun b e => by
    by_cases hb : b = p
    · subst hb; exact .inr fr
    · rw [upd_ne hb] at e; exact x.n b e⟩
theorem frozeG {Hf H Hf' H' : Hp} {v : V} {r r' : SV} (x : Ext Hf H Hf' H') (q : RepR c.K Hf' H' v r) (fr : r.own = true → ∀ p, v = .ref p → H p = none) (e : shrS r = .ok r') :
    ∃ Hf2, Ext Hf H Hf2 H' ∧ RepR c.K Hf2 H' v r' ∧ isShr r' = true := by
  cases r with
  | d y => cases e; exact ⟨Hf', x, q, rfl⟩
  | sk y => cases e; exact ⟨Hf', x, q, rfl⟩
  | sd y => cases e; exact ⟨Hf', x, q, rfl⟩
  | so C y => cases e; exact ⟨Hf', x, q, rfl⟩
  | rw _ _ _ _ => cases e
  | ol xs =>
    cases e
    obtain ⟨p, vs, rfl, h1, h2, h3⟩ := q
    exact ⟨_, shr_ext x h1 h2 (fr rfl _ rfl), (show Dp c.K.k _ _ _ from .lst (.inl (.inl upd_same)) (dpAll_mono (upd_grow h2) h3)), rfl⟩
  | kd xs =>
    cases e
    obtain ⟨p, ep, vs, rfl, h1, h2, h3⟩ := q
    exact ⟨_, shr_ext x h1 h2 (fr rfl _ rfl), ⟨p, ep, vs, rfl, upd_same, kdr_mono (upd_grow h2) h3⟩, rfl⟩
  | od xs =>
    cases e
    obtain ⟨p, vs, rfl, h1, h2, h3⟩ := q
    exact ⟨_, shr_ext x h1 h2 (fr rfl _ rfl), ⟨p, vs, rfl, upd_same, dkv_mono (upd_grow h2) h3⟩, rfl⟩
  | oi C xs =>
    cases e
    obtain ⟨p, dx, vs, rfl, h1, h2, h3, _⟩ := q
    exact ⟨_, shr_ext x h1 h2 (fr rfl _ rfl), ⟨p, dx, vs, rfl, upd_same, fsr_mono (upd_grow h2) h3⟩, rfl⟩
  | pin xs => cases e
  | exn n as => cases e
  | pd xs => cases e
/-- lent: the whole heap is shared for the while -/
def lendS : SV → R SV
  | .pin xs => .ok (.d (.list xs))
  | r => shrS r
theorem lend_ok {Hf H : Hp} {v : V} {r r' : SV} (i : Same Hf H) (q : RepR c.K Hf H v r) (e : lendS r = .ok r') : RepR c.K H H v r' ∧ isShr r' = true := by
  cases r with
  | d y => cases e; exact ⟨(show Dp c.K.k H v y from dp_mono i q), rfl⟩
  | sk y => cases e; obtain ⟨p, ep, vs, rfl, h1, h3⟩ := q; exact ⟨⟨p, ep, vs, rfl, i _ _ h1, kdr_mono i h3⟩, rfl⟩
  | sd y => cases e; obtain ⟨p, vs, rfl, h1, h3⟩ := q; exact ⟨⟨p, vs, rfl, i _ _ h1, dkv_mono i h3⟩, rfl⟩
  | so C y => cases e; obtain ⟨p, dx, vs, rfl, h1, h3⟩ := q; exact ⟨⟨p, dx, vs, rfl, i _ _ h1, fsr_mono i h3⟩, rfl⟩
  | rw _ _ _ _ => cases e
  | ol xs => cases e; obtain ⟨p, vs, rfl, h1, h2, h3⟩ := q; exact ⟨(show Dp c.K.k H _ _ from .lst (.inl (.inl h1)) (dpAll_mono i h3)), rfl⟩
  | pin xs => cases e; obtain ⟨p, vs, rfl, h1, h2, h3⟩ := q; exact ⟨(show Dp c.K.k H _ _ from .lst (.inl (.inl h1)) (dpAll_mono i h3)), rfl⟩
  | kd xs => cases e; obtain ⟨p, ep, vs, rfl, h1, h2, h3⟩ := q; exact ⟨⟨p, ep, vs, rfl, h1, kdr_mono i h3⟩, rfl⟩
  | od xs => cases e; obtain ⟨p, vs, rfl, h1, h2, h3⟩ := q; exact ⟨⟨p, vs, rfl, h1, dkv_mono i h3⟩, rfl⟩
  | oi C xs => cases e; obtain ⟨p, dx, vs, rfl, h1, h2, h3, _⟩ := q; exact ⟨⟨p, dx, vs, rfl, h1, fsr_mono i h3⟩, rfl⟩
  | exn n as => cases e
  | pd xs => cases e
def GG (c : Ct) (Hf H : Hp) (Q : List V → Hp → Prop) (rs : List SV) : Prop := ∀ vs Hf' H', Ext Hf H Hf' H' → RepRs c.K Hf' H' vs rs → (∀ r ∈ rs, isShr r = true) → Q vs H'
def SemG' (c : Ct) (t : TA) (f : En → R (List SV)) : Prop := ∀ B H0 Hf H σ ρ Q, EnvOk c.K B H0 Hf H σ ρ → Out c Hf H (f ρ) (GG c Hf H Q) → t σ H Q
theorem out_shr {α : Type} {Hf H : Hp} {a : SV} {k : SV → R α} {G : α → Prop} (o : Out c Hf H (shrS a >>= k) G) : ∃ d, shrS a = .ok d ∧ Out c Hf H (k d) G := by
  cases e : shrS a with
  | ok b => rw [e] at o; exact ⟨b, rfl, o⟩
  | bad => rw [e] at o; exact o.elim
  | ex n as => cases a <;> cases e
def nilG : En → R (List SV) := fun _ => .ok []
def conG (f : En → R SV) (g : En → R (List SV)) : En → R (List SV) := fun ρ => f ρ >>= fun a => shrS a >>= fun d => g ρ >>= fun ds => .ok (d :: ds)
theorem sem_nilG : SemG' c tNil nilG := fun B H0 Hf H σ ρ Q I o => o [] Hf H (.refl I.i) .nil fun _ h => nomatch h
theorem sem_conG {te : TE} {t : TA} {f : En → R SV} {g : En → R (List SV)} (h : SemE c true te f) (h' : SemG' c t g) : SemG' c (tCons te t) (conG f g) := by
  intro B H0 Hf H σ ρ Q I o
  refine h B H0 Hf H σ ρ _ I (Out.bind o fun a ea o1 => fun v Hf1 H1 x1 q1 fr => ?_)
  obtain ⟨d, e, o2⟩ := out_shr o1
  obtain ⟨Hf2, x2, q2, sh⟩ := frozeG x1 q1 (fr rfl) e
  refine h' B H0 Hf2 H1 σ ρ _ (I.grow x2) (Out.bind (o2.grow x2 fun _ z => z) fun ds eds o3 => fun vs Hf3 H3 x3 q3 s3 => ?_)
  exact (show GG c Hf H Q (d :: ds) from o3) (v :: vs) Hf3 H3 (x2.trans x3) (.cons (q2.grow x3) q3) fun r hr => by
    rcases List.mem_cons.mp hr with rfl | hr
    · exact sh
    · exact s3 r hr
def spG (w : World) (K : PySem.W.Frag) (cm : Nat → Addr × List Str) (n : Nat) (g : List SV → R SV) : Sp := fun vs H Q E => vs.length = n ∧ ∃ (ex : Exi) (Hf : Hp) (rs : List SV), Same Hf H ∧ RepRs ⟨K, ex, w⟩ Hf H vs rs ∧ (∀ r ∈ rs, isShr r = true) ∧
  Out ⟨⟨K, ex, w⟩, cm, E⟩ Hf H (g rs) (GE ⟨⟨K, ex, w⟩, cm, E⟩ true Hf H Q)
theorem repRs_len {K : Kx} {Hf H : Hp} : ∀ {vs : List V} {rs : List SV}, RepRs K Hf H vs rs → vs.length = rs.length
  | _, _, .nil => rfl
  | _, _, .cons _ b => by simp [repRs_len b]
def callG (n : Nat) (g : List SV → R SV) (f : En → R (List SV)) : En → R SV := fun ρ => f ρ >>= fun ds => if ds.length = n then g ds else .bad
theorem sem_callG {n : Nat} {g : List SV → R SV} {t : TA} {f : En → R (List SV)} (h : SemG' c t f) : SemE c true (tCall (spG c.K.w c.K c.cm n g) [] c.E t) (callG n g f) := by
  intro B H0 Hf H σ ρ Q I o
  refine h B H0 Hf H σ ρ _ I (Out.bind o fun ds eds o1 => fun vs Hf1 H1 x1 q1 sh => ?_)
  split at o1
  · rename_i hl
    rw [List.append_nil]
    exact ⟨by rw [repRs_len q1]; exact hl, c.K.x, Hf1, ds, x1.i, q1, sh, o1.grow x1 fun _ g => g.grow x1⟩
  · exact o1.elim
def lendsS : List SV → R (List SV)
  | [] => .ok []
  | a :: r => lendS a >>= fun d => lendsS r >>= fun ds => .ok (d :: ds)
theorem lendsS_ok {Hf H : Hp} (i : Same Hf H) : ∀ {vs : List V} {rs ds : List SV}, RepRs c.K Hf H vs rs → lendsS rs = .ok ds → RepRs c.K H H vs ds ∧ ∀ r ∈ ds, isShr r = true
  | _, _, _, .nil, e => by cases e; exact ⟨.nil, fun _ h => nomatch h⟩
  | _, _, _, .cons (r := r) (rs := rs) a b, e => by
    unfold lendsS at e
    cases e1 : lendS r with
    | ok d =>
      rw [e1, ok_bind] at e
      cases e2 : lendsS rs with
      | ok ds' =>
        rw [e2, ok_bind] at e
        cases e
        obtain ⟨a1, a2⟩ := lend_ok i a e1
        obtain ⟨b1, b2⟩ := lendsS_ok i b e2
        exact ⟨.cons a1 b1, fun z hz => by
          rcases List.mem_cons.mp hz with rfl | hz
          · exact a2
          · exact b2 z hz⟩
      | bad => rw [e2] at e; cases e
      | ex n as => rw [e2] at e; cases e
    | bad => rw [e1] at e; cases e
    | ex n as => rw [e1] at e; cases e
/-- a call that is only lent what it is handed: its answer is a scalar -/
def callGP (n : Nat) (g : List SV → R SV) (f : En → R (List SV)) : En → R SV := fun ρ => f ρ >>= fun rs => match lendsS rs with
  | .ok ds => if ds.length = n then (match g ds with
      | .ok r => if scalS r = true then .ok r else .bad
      | _ => .bad) else .bad
  | _ => .bad
theorem sem_callGP {n : Nat} {g : List SV → R SV} {t : TA} {f : En → R (List SV)} (h : SemB c t f) : SemE c true (tCall (spG c.K.w c.K c.cm n g) [] c.E t) (callGP n g f) := by
  intro B H0 Hf H σ ρ Q I o
  refine h B H0 Hf H σ ρ _ I (Out.bind o fun rs ers o1 => fun vs Hf1 H1 x1 q1 => ?_)
  cases e1 : lendsS rs with
  | bad => simp only [e1] at o1; exact o1.elim
  | ex n as => simp only [e1] at o1; exact o1.elim
  | ok ds =>
    simp only [e1] at o1
    obtain ⟨q2, sh⟩ := lendsS_ok (c := c) x1.i q1 e1
    split at o1
    · rename_i hl
      rw [List.append_nil]
      refine ⟨by rw [repRs_len q2]; exact hl, c.K.x, H1, ds, .refl _, q2, sh, ?_⟩
      cases e2 : g ds with
      | bad => simp only [e2] at o1; exact o1.elim
      | ex n as => simp only [e2] at o1; exact o1.elim
      | ok r =>
        simp only [e2] at o1
        split at o1
        · rename_i hs
          intro v Hf2 H2 x2 q3 _
          cases r with
          | d x => exact GE.now (GE.grow (show GE c true Hf H Q _ from o1) ⟨x1.f, x1.h.trans x2.h, x1.i.trans x2.h, fun p e => (x1.n p e)⟩) (x1.i.trans x2.h) (flat_any q3 hs)
          | _ => cases hs
        · exact o1.elim
    · exact o1.elim
end
def startG (N : Nat) (rs : List SV) : En := (rs.map some) ++ List.replicate (N - rs.length) none
def runG (n N : Nat) (f : En → R Fl) (rs : List SV) : R SV := if rs.length = n then f (startG N rs) >>= fun fl => match fl with
  | .rt r => .ok r
  | .nx _ => .ok (.d .none)
  | _ => .bad else .bad
theorem repRs_get {K : Kx} {Hf H : Hp} : ∀ {vs : List V} {rs : List SV} {i : Nat} {r : SV}, RepRs K Hf H vs rs → rs[i]? = some r → ∃ v, vs[i]? = some v ∧ RepR K Hf H v r
  | _, _, _, _, .nil, e => by simp at e
  | _, _, 0, _, .cons a _, e => by simp at e; subst e; exact ⟨_, rfl, a⟩
  | _, _, i + 1, _, .cons _ b, e => by
    obtain ⟨v, h1, h2⟩ := repRs_get (i := i) b (by simpa using e)
    exact ⟨v, by simpa using h1, h2⟩
theorem start_okG {K : Kx} {Hf H : Hp} {N : List Str} {vs : List V} {rs : List SV} (i : Same Hf H) (h : RepRs K Hf H vs rs) (sh : ∀ r ∈ rs, isShr r = true) : EnvOk K ⟨Hf, fun _ => .non⟩ H Hf H (L2.start N vs) (startG N.length rs) := by
  have hl := repRs_len h
  have at_ : ∀ {j : Nat} {s : SV}, (startG N.length rs)[j]? = some (some s) → rs[j]? = some s := by
    intro j s e
    unfold startG at e
    rcases Nat.lt_or_ge j rs.length with z | z
    · rw [List.getElem?_append_left (by simpa using z), List.getElem?_map, List.getElem?_eq_getElem z] at e
      cases e
      exact List.getElem?_eq_getElem z
    · rw [List.getElem?_append_right (by simpa using z), List.getElem?_replicate] at e
      split at e <;> cases e
  have nown : ∀ {j : Nat} {s : SV}, (startG N.length rs)[j]? = some (some s) → s.own = false ∧ ∀ ys, s ≠ .pin ys := by
    intro j s e
    have := sh s (List.mem_of_getElem? (at_ e))
    cases s <;> first | (cases this; done) | exact ⟨rfl, fun _ z => by cases z⟩
  refine ⟨.refl i, by unfold L2.start startG; simp [hl], fun j s e => ?_, fun j s p e o => ?_, fun j k sj sk p ej oj => ?_, fun j xs e => ?_⟩
  · obtain ⟨v, hv, q⟩ := repRs_get h (at_ e)
    refine ⟨v, ?_, q⟩
    unfold L2.start
    have hj : j < vs.length := (List.getElem?_eq_some_iff.mp hv).1
    rw [List.getElem?_append_left (by simpa using hj), List.getElem?_map, hv] <;> rfl
  · rw [(nown e).1] at o; cases o
  · rw [(nown ej).1] at oj; cases oj
  · exact ((nown e).2 xs rfl).elim
theorem body_okG {w : World} {K : PySem.W.Frag} {cm : Nat → Addr × List Str} {E : XK} {N ps : List Str} {t : TS} {f : En → R Fl} {vs : List V} {H : Hp} {Q : VK} (h : ∀ ex : Exi, SemS ⟨⟨K, ex, w⟩, cm, E⟩ t f) (hsp : spG w K cm ps.length (runG ps.length N.length f) vs H Q E) :
    t { nx := fun _ H' => Q .non H', rt := Q } (L2.start N vs) H := by
  obtain ⟨hl, ex, Hf, rs, i, q, sh, o⟩ := hsp
  have I := start_okG (K := ⟨K, ex, w⟩) (N := N) i q sh
  unfold runG at o
  rw [if_pos (by rw [← repRs_len q]; exact hl)] at o
  refine h ex ⟨Hf, fun _ => .non⟩ H Hf H _ _ _ I (Out.bind o fun fl efl o1 => ?_)
  cases fl with
  | nx ρ => exact fun Hf2 H2 σ2 I2 => (show GE ⟨⟨K, ex, w⟩, cm, E⟩ true Hf H Q (.d .none) from o1) .non Hf2 H2 I2.ext .non fun _ z => nomatch z
  | rt r => exact fun v Hf2 H2 x q fr => (show GE ⟨⟨K, ex, w⟩, cm, E⟩ true Hf H Q r from o1) v Hf2 H2 x q fun _ => fr
  | bk ρ => exact o1.elim
  | ct ρ => exact o1.elim
section
variable {P : Program} {w : World} {K : PySem.W.Frag} {mg : Str → Option Value} {base : Heap}
theorem mk_okG {x qual : Str} {st : Stmt} {f : Addr} {fd : FuncData} {N ps : List Str} {k : Nat} {cm : Nat → Addr × List Str} {b : En → R Fl} (F : Fun K x qual st f fd) (S : FnScope N ps (defScope st))
    (hb : ∀ (cdv : Value) (A : Around) (outer : List Env) (s : Shared) (H : Hp) (E : XK), Room k (A.deeper (envOfC qual (defScope st) s.heap.objs.size f cdv)) →
      ∃ t, PSs (cxOf CX0 P w K mg base N qual (defScope st) f cdv A outer s H E).nox (defBody st) t ∧ ∀ ex : Exi, SemS ⟨⟨K, ex, w⟩, cm, E⟩ t b) :
    FnOk P w K mg base CX0 (k + 1) f fd ps (spG w K cm ps.length (runG ps.length N.length b)) := by
  refine F.ok S (fun vs H Q E h => h.1) fun cdv A outer s H vs Q E hr h => ?_
  obtain ⟨t, h1, h2⟩ := hb cdv A outer s H E hr
  exact ⟨t, h1, body_okG (ps := ps) h2 h⟩
end
end Pl
/-! PlG: own exceptions with one field: raise C(e), n.f in a suite, isinstance of such an error. -/
namespace L2
open PySem PySem.Spec PyProof.Rows
/-- isinstance(e, c), e the exception that the suite holds, of a class with a field -/
def rIsY (K : PySem.W.Frag) (cls : Value) (d : Option Addr) (a : Addr) : List V → Hp → VK → Prop := fun xs H Q => ∃ (D dd : Addr) (kvs : List (Str × V)) (c : V) (cv : Value) (b : Bool), cls = .ref D ∧ d = some dd ∧ H dd = some (.xd kvs) ∧ ExcC K D ∧ xs = [.ref a, c] ∧ (∀ u, RelV c u → u = cv) ∧ PySem.W.kitOne K (.ref D) cv = some b ∧ Q (.bl b) H
theorem call_isY {X : Cx} {a : Addr} {cls : Value} {d : Option Addr} {oe : Obj} {pn : List (Addr × Obj)} (hz : Zc cls d oe) (hf : ∃ vs, oe.data = .fields vs) : CallR (X.suite a ((a, oe) :: pn)) (.builtin "isinstance") (rIsY X.K cls d a) := by
  intro pins s σ H xs us Q I r h
  obtain ⟨D, dd, kvs, c, cv, b, rfl, rfl, hk, C, rfl, hcv, e, q⟩ := h
  cases r with
  | cons rx rr =>
    cases rr with
    | cons rt rr =>
      cases rr
      cases rx
      have ec := hcv _ rt
      subst ec
      obtain ⟨hget, _⟩ := I.pin (a, oe) (List.mem_append.mpr (.inl List.mem_cons_self))
      obtain ⟨vs, hv⟩ := hf
      obtain ⟨mA, hns, _⟩ : ObjOk X.prog X.w H s.heap dd (.xd kvs) := I.hok dd _ hk
      obtain ⟨od, ho, _⟩ := lookIn_ns hns
      have J : PySem.W.InstAt s.heap a oe D (some od) := ⟨hget, hz.1, by unfold PySem.W.notCls; rw [hv] <;> rfl, by rw [hz.2]; exact ho⟩
      exact PySem.W.kia_one (PySem.W.kitx_exc (by obtain ⟨cdD, hcD, _⟩ := PySem.W.any_some C.hd; rw [hcD]; rfl) C.hg C.hk C.hs C.ha C.hn C.ht C.hm) I.kIn J e (fun z => nomatch z) fun tk => ⟨.bl b, H, I.kept (t' := tk) fun _ _ z => z, rfl, q⟩
end L2
namespace Pl
open PySem PySem.Spec PyProof.Rows L2
/-! ### raise C(e) -/
def tMk1 (f : Str) (C : Addr) (ta : TA) : L2.St → Hp → XK → Prop := fun σ H Q => ta σ H fun vs H1 => ∃ v, vs = [v] ∧ ∀ d, H1 d = none → Q (.ref C) (some d) (upd H1 d (.xd [(f, v)]))
section
variable {c : Ct}
def raiseA (n : Nat) (f : En → R (List D)) : En → R Fl := fun ρ => f ρ >>= fun ds => if ds.length = 1 then .ex n ds else .bad
theorem sem_raiseA {n : Nat} {C : Addr} {x : Str} {t : TA} {f : En → R (List D)} (hC : c.cm n = (C, [x])) (h : SemA c t f) : SemS c (fun _ σ H => tMk1 x C t σ H fun cls d H' => c.E cls d H') (raiseA n f) := by
  intro B H0 Hf H σ ρ Dn I o
  refine h B H0 Hf H σ ρ _ I ((Out.bind o fun ds eds o1 => ?_ : Out c B H0 (f ρ) (GA c Hf H fun vs H1 => ∃ v, vs = [v] ∧ ∀ d, H1 d = none → c.E (.ref C) (some d) (upd H1 d (.xd [(x, v)])))).here I.ext)
  intro vs Hf1 H1 x1 q1
  split at o1
  · rename_i hl
    cases q1 with
    | nil => cases hl
    | @cons v vs d ds qv qr =>
      cases qr with
      | cons _ _ => cases hl
      | nil =>
        refine ⟨v, rfl, fun p hp => ?_⟩
        have z := (show ExW c B.h H0 n [d] from o1) Hf1 (upd H1 p (.xd [(x, v)])) (some p) ((I.ext.trans x1).trans (Ext.fresh x1.i hp)) ⟨by rw [hC]; exact List.cons_ne_nil _ _, [v], by rw [hC]; exact upd_same, by rw [hC]; rfl, .cons qv .nil⟩
        rw [hC] at z
        exact z
  · exact o1.elim
/-! ### n.f, n the error that the suite holds -/
def tFld1 (f : Str) (C : Addr) (a : Addr) (cls : Value) (d : Option Addr) (te : TE) : TE := fun σ H Q => te σ H fun x H1 => x = .ref a ∧ cls = .ref C ∧ ∃ (dd : Addr) (v : V), d = some dd ∧ H1 dd = some (.xd [(f, v)]) ∧ Q v H1
/-- field 0 of the held error -/
def excF (i : Nat) : En → R SV := fun ρ => match ρ[i]? with
  | some (some (.exn _ [x])) => .ok (.d x)
  | _ => .bad
theorem sem_excF {i n : Nat} {a : Addr} {od : Option Addr} {C : Addr} {x : Str} {bl : Bool} (hC : c.cm n = (C, [x])) : SemE (exiOf c n a od) bl (tFld1 x C a (.ref (c.cm n).1) od (tVar i)) (excF i) := by
  intro B H0 Hf H σ ρ Q I o
  unfold excF at o
  split at o
  rotate_left
  · exact o.elim
  rename_i m d e
  obtain ⟨v, h1, h2, h3, h4⟩ := I.sl i _ e
  cases od with
  | none => exact absurd (show [d] = [] from h4) (fun z => nomatch z)
  | some dd =>
    obtain ⟨vs, k1, k2, k3⟩ := (show ∃ vs, H dd = some (.xd ((c.cm n).2.zip vs)) ∧ (c.cm n).2.length = vs.length ∧ DpAll c.K.k Hf vs [d] from h4)
    rw [hC] at k1 k2
    cases k3 with
    | cons k3 kr =>
      cases kr
      rename_i u
      refine ⟨v, h1, h3, by rw [hC], dd, u, rfl, k1, ?_⟩
      exact o u Hf H (.refl I.i) k3 fun _ ho => nomatch ho
/-! ### isinstance of it -/
def tIsY (K : PySem.W.Frag) (i : Nat) (C a : Addr) (cls : Value) (d : Option Addr) : TE := tCB (rIsY K cls d a) (tCons (tVar i) (tCons (tC (.ref C)) tNil))
def isY (i : Nat) (f : Nat → Bool) : En → R SV := fun ρ => match ρ[i]? with
  | some (some (.exn n [_])) => .ok (.d (.bool (f n)))
  | _ => .bad
theorem sem_isY {i n : Nat} {a : Addr} {od : Option Addr} {C D0 : Addr} {x : Str} {f : Nat → Bool} {bl : Bool} (hC : c.cm n = (D0, [x])) (hx : ExcC c.K.k (c.cm n).1) (hk : PySem.W.kitOne c.K.k (.ref (c.cm n).1) (.ref C) = some (f n)) :
    SemE (exiOf c n a od) bl (tIsY c.K.k i C a (.ref (c.cm n).1) od) (isY i f) := by
  intro B H0 Hf H σ ρ Q I o
  unfold isY at o
  split at o
  rotate_left
  · exact o.elim
  rename_i m d e
  obtain ⟨v, h1, h2, h3, h4⟩ := I.sl i _ e
  have h2' : m = n := h2
  subst h2'
  cases od with
  | none => exact absurd (show [d] = [] from h4) (fun z => nomatch z)
  | some dd =>
    obtain ⟨vs, k1, k2, k3⟩ := (show ∃ vs, H dd = some (.xd ((c.cm m).2.zip vs)) ∧ (c.cm m).2.length = vs.length ∧ DpAll c.K.k Hf vs [d] from h4)
    refine ⟨v, h1, (c.cm m).1, dd, _, .ref C, .ref C, f m, rfl, rfl, k1, hx, by rw [h3], fun u r => ?_, hk, ?_⟩
    · cases r; rfl
    · exact GE.now o I.i (.bl _)
theorem pe_isY {X : Cx} {a : Addr} {cls : Value} {d : Option Addr} {oe : Obj} {pn : List (Addr × Obj)} {i : Nat} {x : Str} {C : Addr} {p p1 p2 p3 : Pos} {y : Str} (hz : Zc cls d oe) (hf : ∃ vs, oe.data = .fields vs) (hg : Gl X "isinstance") (hm : X.mg "isinstance" = none)
    (hv : bootBuiltins "isinstance" = some (.builtin "isinstance")) (ha : PA (X.suite a ((a, oe) :: pn)) [.Name y p3, .Name x p1] (tCons (tVar i) (tCons (tC (.ref C)) tNil))) : PE (X.suite a ((a, oe) :: pn)) (.Call (.Name "isinstance" p) [.Name y p3, .Name x p1] [] p2) (tIsY X.K i C a cls d) :=
  pe_callB (X := X.suite a ((a, oe) :: pn)) (call_isY hz hf) hg hm hv ha
/-- not x in a suite -/
theorem pe_notTS {X : Cx} {a : Addr} {pn : List (Addr × Obj)} {e : Expr} {ta : TE} {pos : Pos} (h : PE (X.suite a pn) e ta) : PE (X.suite a pn) (.UnaryOp .Not e pos) (tNotT X.K ta) := pe_notT h
theorem o_eqS {X : Cx} {a : Addr} {pn : List (Addr × Obj)} (hu : X.A.units + 64 < cLine) : OpR (X.suite a pn) (compareOp .Eq) (rEqA X.K) := o_eq (X := X.suite a pn) hu
theorem o_neS {X : Cx} {a : Addr} {pn : List (Addr × Obj)} (hu : X.A.units + 64 < cLine) : OpR (X.suite a pn) (compareOp .NotEq) (rNeA X.K) := o_ne (X := X.suite a pn) hu
end
end Pl
/-! PlH: expressions that write an own dict: d.setdefault(k, v) inside a comprehension. -/
namespace Pl
open PySem PySem.Spec PyProof.Rows L2
/-! ### the hand rule -/
section
variable {X : Cx} {pins : List (Addr × Obj)} {σ : L2.St} {H : Hp} {s : Shared} {a b : Addr} {k : NestedKey} {xs : KX} {v : V} {u r : Value} {A : Around} {E : Value → Shared → Prop}
theorem kd_setd {y : V} {Q : Value → Shared → Prop} (hu : A.units + 65 < cLine) (I : Inv X pins σ H s) (g : KD X.K X.w H a xs) (hk : KeyH X.K H k b) (hl : xs.length < sizeLine) (rd : RelV y r)
    (h1 : ∀ v, valX xs k = some v → ∀ (w' : Value) (s' : Shared), Inv X pins σ H s' → RelV v w' → Q w' s')
    (h2 : valX xs k = none → ∀ ep (s' : Shared), Inv X pins σ (upd H a (kdx X.w a ep (putX xs k b y))) s' → Q r s') :
    wpAny (model X.prog X.w) A (call (.builtin "dict.setdefault") [.ref a, .ref b, r]) Q E s := by
  obtain ⟨l, n, ys, rel, dd⟩ := kd_of I g
  have hz : ys.length ≤ sizeLine := by rw [← Paired.length rel]; exact l
  have hl' : (putX xs k b y).length ≤ sizeLine := by have := putX_len xs k b y; omega
  refine call_setdefault_heap (hsz := hz) (kd_room hu) (key_is I hk) n dd (fun p hp => ?_) fun hn h' dd' hs => ?_
  · have q := krel_val k rel
    rw [hp] at q
    cases q0 : valX xs k with
    | none => rw [q0] at q; exact (show False from q).elim
    | some v0 => rw [q0] at q; exact h1 v0 q0 _ _ (I.tok _) q
  · have q := krel_val k rel
    rw [hn] at q
    cases q0 : valX xs k with
    | some v0 => rw [q0] at q; exact (show False from q).elim
    | none =>
      obtain ⟨ep, kf⟩ := kfact_of (w := X.w) hl' n (krel_put rel k (b := b) rd) dd'
      obtain ⟨o, _, _, ho, _⟩ := dd'
      obtain ⟨⟨ep0, e0⟩, _⟩ := g
      exact h2 q0 ep _ (d_write (a := a) I (by rw [e0]; exact True.intro) hs ⟨o, ho⟩ (kfact_ok kf))
end
def tKSetd (K : PySem.W.Frag) (w : World) (td ty tx : TE) : TE := fun σ H Q => td σ H fun x H1 => ∃ a xs, x = .ref a ∧ KD K w H1 a xs ∧ ty σ H1 fun y H2 => tx σ H2 fun z H3 => ∃ k b, y = .ref b ∧ KD K w H3 a xs ∧ KeyH K H3 k b ∧ xs.length < sizeLine ∧
  (∀ v, valX xs k = some v → Q v H3) ∧ (valX xs k = none → ∀ ep, Q z (upd H3 a (kdx w a ep (putX xs k b z))))
theorem pe_ksetd {X : Cx} {o e f : Expr} {td ty tx : TE} {apos cpos : Pos} (hu : X.A.units + 65 < cLine) (ho : PE X o td) (he : PE X e ty) (hf : PE X f tx) (m : M2 X o "setdefault" apos e f cpos) : PE X (.Call (.Attribute o "setdefault" apos) [e, f] [] cpos) (tKSetd X.K X.w td ty tx) := by
  refine ⟨fun pins s σ H Q I h => ?_⟩
  refine wpAny_Call_method m.base m.few m.line PySem.F.plainAttrs_dict PySem.F.slot_dict_setdefault PySem.F.type_dict_setdefault (thn (ho.run pins s σ H _ I h) fun u s1 ⟨x, H1, I1, rx, a, xs, ex, d, q1⟩ => ?_)
  subst ex
  obtain rfl : u = Value.ref a := rx
  refine ⟨kd_type I1 d, kd_noDict I1 d, ?_⟩
  rw [m.trees]
  refine Calls.callWith_builtin rfl (Calls.evalArgs_plain (Calls.spliced_cons (thn (he.run pins s1 σ H1 _ I1 q1) fun iv s2 ⟨y, H2, I2, ry, q2⟩ =>
    Calls.spliced_cons (thn (hf.run pins s2 σ H2 _ I2 q2) fun fv s3 ⟨z, H3, I3, rz, k, b, ey, g, hk, hl, q3, q4⟩ => Calls.spliced_nil ?_))))
  subst ey
  obtain rfl : iv = Value.ref b := ry
  exact kd_setd hu I3 g hk hl rz (fun v hv w' s4 I4 rw' => ⟨v, H3, I4, rw', q3 v hv⟩) fun hn ep s4 I4 => ⟨z, _, I4, rz, q4 hn ep⟩
/-! ### their meaning -/
theorem R.bind_ok {α β : Type} {x : R α} {k : α → R β} {z : β} (h : (x >>= k) = .ok z) : ∃ a, x = .ok a ∧ k a = .ok z := by
  cases x with
  | ok a => exact ⟨a, rfl, h⟩
  | ex n as => cases h
  | bad => cases h
section
variable {c : Ct}
/-- an expression whose answer is a datum and that writes own things anew -/
def SemX (c : Ct) (t : TE) (f : En → R (D × En)) : Prop := ∀ B H0 Hf H σ ρ (Q : VK), EnvOk c.K B H0 Hf H σ ρ → ∀ d ρ', f ρ = .ok (d, ρ') → (∀ v Hf' H', EnvOk c.K B H0 Hf' H' σ ρ' → Dp c.K Hf' v d → Q v H') → t σ H Q
def SemXA (c : Ct) (t : TA) (f : En → R (List D × En)) : Prop := ∀ B H0 Hf H σ ρ (Q : List V → Hp → Prop), EnvOk c.K B H0 Hf H σ ρ → ∀ ds ρ', f ρ = .ok (ds, ρ') → (∀ vs Hf' H', EnvOk c.K B H0 Hf' H' σ ρ' → DpAll c.K Hf' vs ds → Q vs H') → t σ H Q
def ksetdX (i : Nat) (fk fx : En → R SV) : En → R (D × En) := fun ρ => match ρ[i]? with
  | some (some (.kd kvs)) => fk ρ >>= fun kk => fx ρ >>= fun x => match kdKey kk, x with
    | .ok k, .d x => if kvs.length < sizeLine then (match valD kvs k with
      | some d => .ok (d, ρ)
      | none => .ok (x, ρ.set i (some (.kd (putD kvs k x))))) else .bad
    | _, _ => .bad
  | _ => .bad
theorem sem_ksetd {i : Nat} {tk tx : TE} {fk fx : En → R SV} (hk : SemE c true tk fk) (hx : SemE c true tx fx) : SemX c (tKSetd c.K c.K.w (tVar i) tk tx) (ksetdX i fk fx) := by
  intro B H0 Hf H σ ρ Q I d ρ' e q
  unfold ksetdX at e
  split at e
  rotate_left
  · cases e
  rename_i kvs ei
  obtain ⟨kk, ek, e⟩ := R.bind_ok e
  obtain ⟨x, ex, e⟩ := R.bind_ok e
  obtain ⟨v, h1, p, ep, xs, rfl, h2, h3, h4⟩ := I.sl i _ ei
  refine ⟨.ref p, h1, p, xs, rfl, kd_mk I.i h2 h4, ?_⟩
  refine hk B H0 Hf H σ ρ _ I ?_
  rw [ek]
  intro kv Hf1 H1 x1 q1 fr1
  refine hx B H0 Hf1 H1 σ ρ _ (I.grow x1) ?_
  rw [ex]
  intro z Hf2 H2 x2 q2 fr2
  split at e
  rotate_left
  · cases e
  rename_i k xd ekk
  split at e
  rotate_left
  · cases e
  rename_i hl
  obtain ⟨b, rfl, hb⟩ := kdKey_ok q1 ekk
  have X2 := x1.trans x2
  have I2 := I.grow X2
  have h2' := X2.h _ _ h2
  have h3' := X2.still h2 h3
  have h4' := kdr_mono X2.f h4
  have hb' := keyH_mono x2.f hb
  refine ⟨k, b, rfl, kd_mk X2.i h2' h4', keyH_mono x2.i hb', by rw [kdr_len h4]; exact hl, fun v hv => ?_, fun hv ep' => ?_⟩
  · rcases kdr_val k h4' with ⟨a1, a2⟩ | ⟨d', v', a1, a2, a3⟩
    · rw [a2] at hv; cases hv
    · rw [a2] at hv; cases hv
      rw [a1] at e
      cases e
      exact q _ Hf2 H2 I2 a3
  · rcases kdr_val k h4' with ⟨a1, a2⟩ | ⟨d', v', a1, a2, a3⟩
    · rw [a1] at e
      cases e
      have q2' := (show Dp c.K.k Hf2 z _ from q2)
      exact q _ Hf2 _ (I2.rewriteK ei rfl h1 h2' h3' ⟨p, ep', _, rfl, upd_same, h3', kdr_put hb' q2' h4'⟩ rfl) q2'
    · rw [a2] at hv; cases hv
def conPX (f : En → R SV) (g : En → R (List D × En)) : En → R (List D × En) := fun ρ => f ρ >>= fun r => datS r >>= fun d => g ρ >>= fun p => .ok (d :: p.1, p.2)
theorem sem_conPX {te : TE} {t : TA} {f : En → R SV} {g : En → R (List D × En)} (h : SemE c true te f) (h' : SemXA c t g) : SemXA c (tCons te t) (conPX f g) := by
  intro B H0 Hf H σ ρ Q I ds ρ' e q
  unfold conPX at e
  obtain ⟨r, er, e⟩ := R.bind_ok e
  obtain ⟨d, ed, e⟩ := R.bind_ok e
  obtain ⟨p, ep, e⟩ := R.bind_ok e
  cases e
  refine h B H0 Hf H σ ρ _ I ?_
  rw [er]
  intro v Hf1 H1 x1 q1 fr
  obtain ⟨Hf2, x2, q2⟩ := froze x1 q1 (fr rfl) ed
  have I2 := I.grow x2
  refine h' ⟨Hf2, B.fx⟩ H0 Hf2 H1 σ ρ _ I2.rebase p.1 p.2 ep fun vs Hf3 H3 I3 q3 => ?_
  exact q (v :: vs) Hf3 H3 (I3.unbase I2.ext) (.cons (dp_mono I3.ext.f q2) q3)
def conLX (f : En → R (D × En)) : En → R (List D × En) := fun ρ => f ρ >>= fun p => .ok ([p.1], p.2)
theorem sem_conLX {te : TE} {f : En → R (D × En)} (h : SemX c te f) : SemXA c (tCons te tNil) (conLX f) := by
  intro B H0 Hf H σ ρ Q I ds ρ' e q
  unfold conLX at e
  obtain ⟨p, ep, e⟩ := R.bind_ok e
  cases e
  exact h B H0 Hf H σ ρ _ I p.1 p.2 ep fun v Hf1 H1 I1 q1 => q [v] Hf1 H1 I1 (.cons q1 .nil)
def dispTX (g : En → R (List D × En)) : En → R (D × En) := fun ρ => g ρ >>= fun p => if p.1.length ≤ 1000 then .ok (.tuple p.1, p.2) else .bad
theorem sem_tupX {t : TA} {g : En → R (List D × En)} (h : SemXA c t g) : SemX c (tTup t) (dispTX g) := by
  intro B H0 Hf H σ ρ Q I d ρ' e q
  unfold dispTX at e
  obtain ⟨p, ep, e⟩ := R.bind_ok e
  split at e
  rotate_left
  · cases e
  rename_i hl
  cases e
  refine h B H0 Hf H σ ρ _ I p.1 p.2 ep fun vs Hf1 H1 I1 q1 => ?_
  exact ⟨Nat.le_of_lt (small1000 (by rw [dpAll_len q1]; exact hl)), fun a ha => q (.ref a) _ _ (I1.grow (.laid I1.i ha)) (.tup (.inl (.inl upd_same)) (dpAll_mono (upd_grow (I1.i.free ha)) q1))⟩
/-! ### x = [e for .. in ..], e such an expression -/
def lcFX (k : D → En → R En) (e : En → R (D × En)) (vs : List Nat) : En → List D → R (List D × En)
  | ρ, [] => .ok ([], ρ)
  | ρ, x :: xs => match k x ρ with
    | .ok ρ1 => e ρ1 >>= fun p => lcFX k e vs (wipeE p.2 vs) xs >>= fun q => .ok (p.1 :: q.1, q.2)
    | _ => .bad
def asgLX (j : Nat) (fi : En → R (List D)) (k : D → En → R En) (e : En → R (D × En)) (vs : List Nat) : En → R Fl := fun ρ => if noPin ρ = true then fi ρ >>= fun xs => if xs.length < sizeLine then (match lcFX k e vs (wipeE ρ vs) xs with
  | .ok q => .ok (.nx (q.2.set j (some (.ol q.1))))
  | _ => .bad) else .bad else .bad
theorem ExFs.updL {K : Kx} {Hf H : Hp} {as : List D} {p : Addr} {xs ys : List V} (hp : H p = some (.lst xs)) (h : ExFs K Hf H as) : ExFs K Hf (L2.upd H p (.lst ys)) as := ExFs.upd hp h
/-- the list that is being made grows -/
theorem EnvOk.acc {K : Kx} {Hb H0 Hf H : Hp} {σ : L2.St} {ρ : En} {Dd : Addr} {l l' : List V} (I : EnvOk K ⟨Hb, fun _ => .non⟩ (upd H0 Dd (.lst l)) Hf H σ ρ) (hb : Hb Dd = none) : EnvOk K ⟨Hb, fun _ => .non⟩ (upd H0 Dd (.lst l')) Hf (upd H Dd (.lst l')) σ ρ := by
  have hD : H Dd = some (.lst l) := I.ext.h Dd _ upd_same
  have hfD : Hf Dd = none := by
    cases q : Hf Dd with
    | none => rfl
    | some o =>
      rcases I.ext.n Dd (by rw [q]; exact fun z => nomatch z) with z | z
      · exact absurd hb z
      · rw [upd_same] at z; cases z
  have ne : ∀ {p : Addr}, (upd H0 Dd (.lst l)) p = none → p ≠ Dd := fun {p} h z => by rw [z, upd_same] at h; cases h
  have own : ∀ {i : Nat} {r : SV} {p : Addr}, ρ[i]? = some (some r) → r.own = true → σ[i]? = some (some (.ref p)) → p ≠ Dd := fun e o w => ne (I.new _ _ _ e o w)
  refine ⟨⟨I.ext.f, fun b o eb => ?_, fun b o eb => ?_, fun p hp => ?_⟩, I.len, fun j r e => ?_, fun j r p e o w => ?_, I.sep, fun j xs e => ?_⟩
  · by_cases z : b = Dd
    · subst z; rw [upd_same] at eb ⊢; exact eb
    · rw [upd_ne z] at eb ⊢
      exact I.ext.h b o (by rw [upd_ne z]; exact eb)
  · have z : b ≠ Dd := fun z => by rw [z, hfD] at eb; cases eb
    rw [upd_ne z]; exact I.i b o eb
  · rcases I.ext.n p hp with z | z
    · exact .inl z
    · exact .inr (by rw [upd_ne (ne z)]; rw [upd_ne (ne z)] at z; exact z)
  · obtain ⟨v, h1, h2⟩ := I.sl j r e
    refine ⟨v, h1, ?_⟩
    cases r with
    | d x => exact h2
    | ol ys =>
      obtain ⟨q, us, rfl, u1, u2⟩ := h2
      exact ⟨q, us, rfl, by rw [upd_ne (own e rfl h1)]; exact u1, u2⟩
    | od ys =>
      obtain ⟨q, us, rfl, u1, u2⟩ := h2
      exact ⟨q, us, rfl, by rw [upd_ne (own e rfl h1)]; exact u1, u2⟩
    | pin ys =>
      obtain ⟨p, o, z, _⟩ := I.pin j ys e
      cases z
    | exn n as => exact ⟨h2.1, h2.2.1, h2.2.2.upd hD⟩
    | pd ys => exact h2
    | kd ys =>
      obtain ⟨q, ep, us, rfl, u1, u2⟩ := h2
      exact ⟨q, ep, us, rfl, by rw [upd_ne (own e rfl h1)]; exact u1, u2⟩
    | sk ys => exact h2
    | sd ys => exact h2
    | so C fs => exact h2
    | rw _ _ _ _ => exact h2
    | oi C fs =>
      obtain ⟨q, dx, us, rfl, u1, u2⟩ := h2
      exact ⟨q, dx, us, rfl, by rw [upd_ne (own e rfl h1)]; exact u1, u2⟩
  · have z := I.new j r p e o w
    rw [upd_ne (ne z)]; rw [upd_ne (ne z)] at z; exact z
  · obtain ⟨p, o, z, _⟩ := I.pin j xs e
    cases z
theorem wipeE_in {ρ : En} {i : Nat} {x : SV} : ∀ {vs : List Nat}, i ∈ vs → (wipeE ρ vs)[i]? ≠ some (some x) := fun hi h => (wipeE_some h).2 hi
theorem lcFX_wiped {k : D → En → R En} {e : En → R (D × En)} {vs : List Nat} : ∀ (xs : List D) (ρ : En) (q : List D × En), (∀ j ∈ vs, ∀ x, ρ[j]? ≠ some (some x)) → lcFX k e vs ρ xs = .ok q → ∀ j ∈ vs, ∀ x, q.2[j]? ≠ some (some x)
  | [], ρ, q, h, e => by unfold lcFX at e; cases e; exact h
  | x :: xs, ρ, q, h, e => by
    unfold lcFX at e
    split at e
    · obtain ⟨p, _, e⟩ := R.bind_ok e
      obtain ⟨q', eq, e⟩ := R.bind_ok e
      cases e
      exact lcFX_wiped xs _ q' (fun j hj x => wipeE_in hj) eq
    · cases e
theorem EnvOk.noFx {K : Kx} {B : Bs} {H0 Hf H : Hp} {σ : L2.St} {ρ : En} (I : EnvOk K B H0 Hf H σ ρ) (np : noPin ρ = true) : EnvOk K ⟨Hf, fun _ => .non⟩ H0 Hf H σ ρ :=
  ⟨I.ext.rebase, I.len, I.sl, I.new, I.sep, fun i xs e => by cases noPin_get np e⟩
/-- the list that will be made is laid -/
theorem EnvOk.lay {K : Kx} {Hb H0 Hf H : Hp} {σ : L2.St} {ρ : En} {Dd : Addr} (I : EnvOk K ⟨Hb, fun _ => .non⟩ H0 Hf H σ ρ) (h : H Dd = none) (hb : Hb Dd = none) : EnvOk K ⟨Hb, fun _ => .non⟩ (upd H0 Dd (.lst [])) Hf (upd H Dd (.lst [])) σ ρ := by
  have h0 : H0 Dd = none := I.ext.h.free h
  have hf : Hf Dd = none := I.i.free h
  have x : Ext Hf H Hf (upd H Dd (.lst [])) := .fresh I.i h
  have I1 := I.grow x
  have own : ∀ {i : Nat} {r : SV} {p : Addr}, ρ[i]? = some (some r) → r.own = true → σ[i]? = some (some (.ref p)) → p ≠ Dd := fun e o w z => I.own_at e o w (by rw [z]; exact h)
  refine ⟨⟨I1.ext.f, fun b o eb => ?_, I1.i, fun p hp => ?_⟩, I1.len, I1.sl, fun j r p e o w => ?_, I1.sep, fun j xs e => ?_⟩
  · by_cases z : b = Dd
    · subst z; rw [upd_same] at eb ⊢; exact eb
    · rw [upd_ne z] at eb ⊢
      exact I.ext.h b o eb
  · rcases I1.ext.n p hp with z | z
    · exact .inl z
    · by_cases y : p = Dd
      · subst y; exact absurd hf hp
      · exact .inr (by rw [upd_ne y]; exact z)
  · rw [upd_ne (own e o w)]; exact I1.new j r p e o w
  · obtain ⟨p, o, z, _⟩ := I1.pin j xs e
    cases z
theorem sem_asgLX {is : List Nat} {wi : TI} {g : TG} {te : TE} {vs : List Nat} {j : Nat} {fi : En → R (List D)} {k : D → En → R En} {e : En → R (D × En)} (hi : SemI c wi fi) (hg : SemG c is g k) (he : SemX c te e) (hs : ∀ i ∈ is, i ∈ vs) :
    SemS c (tAsg (tLc wi g tYes te vs) (gName j)) (asgLX j fi k e vs) := by
  intro B H0 Hf H σ ρ Dn I o
  unfold asgLX at o
  split at o
  rotate_left
  · exact o.elim
  rename_i np
  refine hi B H0 Hf H σ ρ _ I ((Out.bind o fun xs exs o1 => ?_ : Out c B H0 (fi ρ) (fun xs => ∀ J Hf' H', Ext Hf H Hf' H' → Walks c.K J Hf' xs → _)).here I.ext)
  intro J Hf1 H1 x1 ⟨Y, w, hy⟩ Dd hD
  split at o1
  rotate_left
  · exact o1.elim
  rename_i hlen
  split at o1
  rotate_left
  · exact o1.elim
  rename_i q eq
  have I1 := I.grow x1
  have hDf : Hf1 Dd = none := I1.i.free hD
  have h0 : H0 Dd = none := I1.ext.h.free hD
  have W := ((I1.noFx np).wipe vs).lay hD hDf
  have hw := lcFX_wiped xs _ q (fun j hj x => wipeE_in hj) eq
  refine lc_it w (fun i H2 => i ≤ xs.length ∧ ∃ Hfi acc ds ys ρi, EnvOk c.K ⟨Hf1, fun _ => .non⟩ (upd H0 Dd (.lst acc)) Hfi H2 (L2.wipe σ vs) ρi ∧ DpAll c.K Hfi acc ds ∧ ds.length ≤ i ∧
    lcFX k e vs ρi (xs.drop i) = .ok (ys, q.2) ∧ q.1 = ds ++ ys) ⟨Nat.zero_le _, Hf1, [], [], q.1, wipeE ρ vs, W, .nil, Nat.zero_le _, by rw [List.drop_zero]; exact eq, rfl⟩ (fun i H2 _ ⟨_, Hfi, acc, ds, ys, ρi, I2, _⟩ => I2.ext.f.trans I2.i) ?_ ?_
  · rintro i x H2 H' hlt ⟨_, Hfi, acc, ds, ys, ρi, I2, hds, hlen2, el, eq2⟩ y
    obtain ⟨d, Hf', e1, x3, qd⟩ := hy i H2 x H' Hfi hlt I2.ext.f I2.i y
    have ed : xs.drop i = d :: xs.drop (i + 1) := by
      rw [List.drop_eq_getElem_cons hlt]
      rw [List.getElem?_eq_getElem hlt] at e1
      cases e1; rfl
    rw [ed] at el
    unfold lcFX at el
    split at el
    rotate_left
    · cases el
    rename_i ρ1 ek
    obtain ⟨p, ep, el⟩ := R.bind_ok el
    obtain ⟨q', eq', el⟩ := R.bind_ok el
    have el2 : (p.1 :: q'.1, q'.2) = (ys, q.2) := by injection el
    obtain ⟨el3, el4⟩ := Prod.mk.inj el2
    subst el3
    refine hg ⟨Hf1, fun _ => .non⟩ (upd H0 Dd (.lst acc)) Hf' H' (L2.wipe σ vs) ρi x d _ (I2.grow x3) qd ⟨ρ1, ek, fun σ2 l2 n2 I3 => ?_⟩
    have wb : L2.wipe σ2 vs = L2.wipe σ vs := by
      have := wipe_back (σ := σ) l2 n2 hs
      exact this
    refine ⟨wb, ?_⟩
    unfold tYes
    refine iteT (he ⟨Hf', fun _ => .non⟩ (upd H0 Dd (.lst acc)) Hf' H' σ2 ρ1 _ I3.rebase p.1 p.2 ep fun v Hf4 H4 I4 q4 => ?_)
    have I5 : EnvOk c.K ⟨Hf1, fun _ => .non⟩ (upd H0 Dd (.lst acc)) Hf4 H4 σ2 p.2 := EnvOk.unbase (B := ⟨Hf1, fun _ => .non⟩) I4 I3.ext
    have I6 := I5.wipe vs
    rw [wb] at I6
    refine ⟨acc, I5.ext.h Dd _ upd_same, by rw [dpAll_len hds]; omega, hlt, Hf4, acc ++ [v], ds ++ [p.1], q'.1, wipeE p.2 vs, I6.acc hDf, dpAll_append (dpAll_mono (x3.f.trans I4.ext.f) hds) (.cons q4 .nil), by rw [List.length_append]; show ds.length + 1 ≤ i + 1; omega, by rw [eq', ← el4], by rw [eq2, List.append_assoc]; rfl⟩
  · rintro H2 ⟨_, Hfi, acc, ds, ys, ρi, I2, hds, hlen2, el, eq2⟩
    rw [List.drop_length] at el
    unfold lcFX at el
    cases el
    rw [List.append_nil] at eq2
    have ne : ∀ {p : Addr}, (upd H0 Dd (.lst acc)) p = none → p ≠ Dd := fun {p} h z => by rw [z, upd_same] at h; cases h
    have hD2 : H2 Dd = some (.lst acc) := I2.ext.h Dd _ upd_same
    have hfD : Hfi Dd = none := by
      cases qq : Hfi Dd with
      | none => rfl
      | some o =>
        rcases I2.ext.n Dd (by rw [qq]; exact fun z => nomatch z) with z | z
        · exact absurd hDf z
        · rw [upd_same] at z; cases z
    have at_ : ∀ {i : Nat} {r : SV}, q.2[i]? = some (some r) → (L2.wipe σ vs)[i]? = σ[i]? := fun {i r} e => wipe_at σ fun hi => hw i hi r e
    have J : EnvOk c.K B H0 Hfi H2 σ q.2 := by
      refine ⟨⟨I1.ext.f.trans I2.ext.f, fun b o eb => ?_, I2.i, fun p hp => ?_⟩, by have := I2.len; rw [wipe_length] at this; exact this, fun i r e => ?_, fun i r p e o w => ?_, fun i i' r r' p e o e' o' w w' => ?_, fun i xs e => ?_⟩
      · have z : b ≠ Dd := fun z => by rw [z, h0] at eb; cases eb
        exact I2.ext.h b o (by rw [upd_ne z]; exact eb)
      · rcases I2.ext.n p hp with z | z
        · exact I1.ext.n p z
        · exact .inr (by rw [upd_ne (ne z)] at z; exact z)
      · rw [← at_ e]; exact I2.sl i r e
      · have z := I2.new i r p e o (by rw [at_ e]; exact w)
        rw [upd_ne (ne z)] at z; exact z
      · exact I2.sep i i' r r' p e o e' o' (by rw [at_ e]; exact w) (by rw [at_ e']; exact w')
      · obtain ⟨p, o, z, _⟩ := I2.pin i xs e
        cases z
    refine (show GS c B H0 Dn (.nx _) from o1) Hfi H2 _ (J.set (v := .ref Dd) rfl ⟨Dd, acc, rfl, hD2, hfD, by rw [eq2]; exact hds⟩ fun _ p ep => ?_)
    cases ep
    exact ⟨h0, fun i r e o w => absurd rfl (ne (I2.new i r Dd e o (by rw [at_ e]; exact w)))⟩
end
end Pl
/-! PlI: zip of two lists; comprehensions of two clauses. -/
namespace Pl
open PySem PySem.Spec PyProof.Rows L2
/-! ### zip -/
def zipL (xs ys : List D) : List D := xs.zipWith (fun a b => .tuple [a, b]) ys
theorem walks_zip {K : PySem.W.Frag} {J : It} {Hf : Hp} {vs us : List V} {xs ys : List D} (h : DpAll K Hf vs xs) (h' : DpAll K Hf us ys) (w : Walk J (min vs.length us.length) (fun H => Same Hf H) (YPair (fun i => vs[i]?) (fun i => us[i]?))) : Walks K J Hf (zipL xs ys) := by
  have hl : (zipL xs ys).length = min vs.length us.length := by unfold zipL; rw [List.length_zipWith, dpAll_len h, dpAll_len h']
  refine ⟨_, by rw [hl]; exact w, fun i H x H' Hfi hi s1 s2 y => ?_⟩
  obtain ⟨T, a, b, rfl, e2, rfl, e4, e5⟩ := y
  obtain ⟨d, d1, d2⟩ := dpAll_getV h e4
  obtain ⟨d', d3, d4⟩ := dpAll_getV h' e5
  have hn : Hfi T = none := s2.free e2
  have g := upd_grow (o := .tup [a, b]) hn
  refine ⟨.tuple [d, d'], upd Hfi T (.tup [a, b]), ?_, Ext.laid s2 e2, .tup (.inl (.inl upd_same)) (.cons (dp_mono g (dp_mono s1 d2)) (.cons (dp_mono g (dp_mono s1 d4)) .nil))⟩
  unfold zipL
  rw [List.getElem?_zipWith, d1, d3]
def zipD (f : En → R (List D)) : En → R (List D) := fun ρ => f ρ >>= fun ds => match ds with
  | [.list xs, .list ys] => .ok (zipL xs ys)
  | _ => .bad
section
variable {c : Ct}
theorem sem_zip {t : TA} {f : En → R (List D)} (h : SemA c t f) : SemI c (iZip c.K t) (zipD f) := by
  intro B H0 Hf H σ ρ Rr I o
  refine h B H0 Hf H σ ρ _ I (Out.bind o fun ds eds o1 => fun vs Hf1 H1 x1 q1 => ?_)
  split at o1
  · rename_i xs ys
    cases q1 with
    | cons a b =>
      cases b with
      | cons b e =>
        cases e
        cases a with
        | lst s1 s2 =>
          cases b with
          | lst t1 t2 =>
            exact ⟨_, _, _, _, rfl, x1.i.seq s1, x1.i.seq t1, (show ∀ J Hf' H', Ext Hf H Hf' H' → Walks c.K J Hf' (zipL xs ys) → Rr J H' from o1) _ Hf1 H1 x1 (walks_zip s2 t2 ((walk_zip rfl).mono (fun H e => ⟨e.seq s1, e.seq t1⟩) fun _ _ _ _ _ _ y => y))⟩
  · exact o1.elim
/-! ### a loop's measure -/
theorem it_any {J : It} {n : Nat} {G : Hp → Prop} {Y : Nat → Hp → V → Hp → Prop} (w : Walk J n G Y) {Bd : V → Hp → (Hp → Prop) → Prop} {H1 : Hp} {Qd : Hp → Prop} (Pv : Nat → Hp → Prop) (h0 : Pv 0 H1) (hG : ∀ i H, i ≤ n → Pv i H → G H)
    (hs : ∀ i x H H', i < n → Pv i H → Y i H x H' → Bd x H' (Pv (i + 1))) (hd : ∀ H, Pv n H → Qd H) :
    ∃ W : Nat → Nat → Hp → Prop, (∃ m, W 0 m H1) ∧ ∀ i m H, W i m H → (J.stop i H ∧ Qd H) ∨ (J.go i H ∧ ∃ Nx : Hp → Prop, (∀ H', Nx H' → ∃ m', m' < m ∧ W (i + 1) m' H') ∧ ∀ x H', J.yld i H x H' → Bd x H' Nx) := by
  refine ⟨fun i m H => m = n - i ∧ i ≤ n ∧ Pv i H, ⟨n, by simp, Nat.zero_le _, h0⟩, fun i m H hW => ?_⟩
  obtain ⟨rfl, hi, p⟩ := hW
  have q := hG i H hi p
  rcases Nat.lt_or_ge i n with hlt | hge
  · exact .inr ⟨w.goes i H hlt q, Pv (i + 1), fun H' p' => ⟨n - (i + 1), by omega, rfl, hlt, p'⟩, fun x H' y => hs i x H H' hlt p (w.yields i H x H' hlt q y)⟩
  · obtain rfl : i = n := by omega
    exact .inl ⟨w.stops H q, hd H p⟩
/-! ### two clauses -/
def lcIn (fi : En → R (List D)) (k : D → En → R En) (t : En → R Bool) (e : En → R SV) (vs : List Nat) : En → R (List D) := fun ρ => fi ρ >>= fun xs => lcF k t e (wipeE ρ vs) xs
def lc2F (k : D → En → R En) (t : En → R Bool) (inn : En → R (List D)) (ρ0 : En) : List D → R (List D)
  | [] => .ok []
  | x :: xs => match k x ρ0 with
    | .ok ρ1 => t ρ1 >>= fun b => if b = true then inn ρ1 >>= fun ys => lc2F k t inn ρ0 xs >>= fun zs => .ok (ys ++ zs) else lc2F k t inn ρ0 xs
    | _ => .bad
def lcE2 (fi : En → R (List D)) (k : D → En → R En) (t : En → R Bool) (inn : En → R (List D)) (vs : List Nat) : En → R SV := fun ρ => if noPin ρ = true then fi ρ >>= fun xs => (match lc2F k t inn (wipeE ρ vs) xs with
  | .ok ys => if ys.length < sizeLine then .ok (.ol ys) else .bad
  | _ => .bad) else .bad
theorem EnvOk.acc_at {K : Kx} {Hb H0 Hf H : Hp} {σ : L2.St} {ρ : En} {Dd : Addr} {l : List V} (I : EnvOk K ⟨Hb, fun _ => .non⟩ (upd H0 Dd (.lst l)) Hf H σ ρ) (hb : Hb Dd = none) : H Dd = some (.lst l) ∧ Hf Dd = none := by
  refine ⟨I.ext.h Dd _ upd_same, ?_⟩
  cases q : Hf Dd with
  | none => rfl
  | some o =>
    rcases I.ext.n Dd (by rw [q]; exact fun z => nomatch z) with z | z
    · exact absurd hb z
    · rw [upd_same] at z; cases z
theorem Ext.acc {Hf1 H1 Hf H : Hp} {Dd : Addr} {o : HO} (x : Ext Hf1 H1 Hf H) (h1 : H1 Dd = none) (hf : Hf Dd = none) : Ext Hf1 H1 Hf (upd H Dd o) :=
  ⟨x.f, fun b o' e => by rw [upd_ne (ne_of_none e h1)]; exact x.h _ _ e, fun b o' e => by rw [upd_ne (ne_of_none e hf)]; exact x.i _ _ e, x.n⟩
theorem EnvOk.rebaseN {K : Kx} {Hb H0 Hf H : Hp} {σ : L2.St} {ρ : En} (I : EnvOk K ⟨Hb, fun _ => .non⟩ H0 Hf H σ ρ) : EnvOk K ⟨Hf, fun _ => .non⟩ H0 Hf H σ ρ := EnvOk.rebase (B := ⟨Hb, fun _ => .non⟩) I
theorem sem_lc2 {is is1 : List Nat} {wi wi1 : TI} {g g1 : TG} {tt tt1 : TT} {te : TE} {vs vs1 : List Nat} {fi fi1 : En → R (List D)} {k k1 : D → En → R En} {t t1 : En → R Bool} {e : En → R SV} (hi : SemI c wi fi) (hg : SemG c is g k) (ht : SemT c tt t)
    (hi1 : SemI c wi1 fi1) (hg1 : SemG c is1 g1 k1) (ht1 : SemT c tt1 t1) (he : SemE c true te e) (hs : ∀ i ∈ is, i ∈ vs) (hs1 : ∀ i ∈ is1, i ∈ vs1) :
    SemE c true (tLc2 wi g tt wi1 g1 tt1 te vs vs1) (lcE2 fi k t (lcIn fi1 k1 t1 e vs1) vs) := by
  intro B H0 Hf H σ ρ Q I o
  unfold lcE2 at o
  split at o
  rotate_left
  · exact o.elim
  rename_i np
  refine hi B H0 Hf H σ ρ _ I (Out.bind o fun xs exs o1 => ?_)
  intro J Hf1 H1 x1 ⟨Y, w, hy⟩ Dd hD
  split at o1
  rotate_left
  · exact o1.elim
  rename_i ys eq
  split at o1
  rotate_left
  · exact o1.elim
  rename_i hlen
  have I1 := I.grow x1
  have hDf : Hf1 Dd = none := I1.i.free hD
  have W := ((I1.noFx np).wipe vs).lay hD hDf
  refine it_any w (Bd := fun x H' Nx => g x (L2.wipe σ vs) H' fun σ2 H2 => L2.wipe σ2 vs = L2.wipe σ vs ∧ tt σ2 H2 fun b H3 =>
    if b = true then wi1 σ2 H3 fun J1 H4 => ∃ W1 : Nat → Nat → Hp → Prop, (∃ m, W1 0 m H4) ∧ ∀ j k H, W1 j k H →
      (J1.stop j H ∧ Nx H) ∨ (J1.go j H ∧ ∃ Nx1 : Hp → Prop, (∀ H', Nx1 H' → ∃ k', k' < k ∧ W1 (j + 1) k' H') ∧ ∀ x H', J1.yld j H x H' → g1 x (L2.wipe σ2 vs1) H' fun σ3 H5 => L2.wipe σ3 vs1 = L2.wipe σ2 vs1 ∧ tt1 σ3 H5 fun b H6 =>
        if b = true then te σ3 H6 fun y H7 => ∃ acc, H7 Dd = some (.lst acc) ∧ acc.length < sizeLine ∧ Nx1 (upd H7 Dd (.lst (acc ++ [y]))) else Nx1 H6)
    else Nx H3)
    (fun i H2 => i ≤ xs.length ∧ ∃ Hfi acc ds zs, Ext Hf1 H1 Hfi H2 ∧ EnvOk c.K ⟨Hf1, fun _ => .non⟩ (upd H0 Dd (.lst acc)) Hfi H2 (L2.wipe σ vs) (wipeE ρ vs) ∧ DpAll c.K Hfi acc ds ∧ lc2F k t (lcIn fi1 k1 t1 e vs1) (wipeE ρ vs) (xs.drop i) = .ok zs ∧ ys = ds ++ zs)
    ⟨Nat.zero_le _, Hf1, [], [], ys, .fresh I1.i hD, W, .nil, by rw [List.drop_zero]; exact eq, rfl⟩ (fun i H2 _ ⟨_, Hfi, acc, ds, zs, x2, _⟩ => x2.f.trans x2.i) ?_ ?_
  · rintro i x H2 H' hlt ⟨_, Hfi, acc, ds, zs, x2, I2, hds, el, eq2⟩ y
    obtain ⟨d, Hf', e1, x3, qd⟩ := hy i H2 x H' Hfi hlt x2.f x2.i y
    have ed : xs.drop i = d :: xs.drop (i + 1) := by
      rw [List.drop_eq_getElem_cons hlt]
      rw [List.getElem?_eq_getElem hlt] at e1
      cases e1; rfl
    rw [ed] at el
    unfold lc2F at el
    split at el
    rotate_left
    · cases el
    rename_i ρ1 ek
    obtain ⟨b, et, el⟩ := R.bind_ok el
    have x4 := x2.trans x3
    have I3 := I2.grow x3
    refine hg ⟨Hf1, fun _ => .non⟩ (upd H0 Dd (.lst acc)) Hf' H' (L2.wipe σ vs) (wipeE ρ vs) x d _ I3 qd ⟨ρ1, ek, fun σ2 l2 n2 I4 => ⟨wipe_back l2 n2 hs, ?_⟩⟩
    refine ht ⟨Hf1, fun _ => .non⟩ (upd H0 Dd (.lst acc)) Hf' H' σ2 ρ1 _ I4 ?_
    rw [et]
    intro Hf5 H5 x5
    have I5 := I3.grow x5
    have J5 := I4.grow x5
    have hds5 := dpAll_mono (x3.f.trans x5.f) hds
    cases b with
    | false => exact iteF ⟨hlt, Hf5, acc, ds, zs, x4.trans x5, I5, hds5, el, eq2⟩
    | true =>
      obtain ⟨us, eu, el⟩ := R.bind_ok (show (lcIn fi1 k1 t1 e vs1 ρ1 >>= _) = _ from el)
      obtain ⟨ws, ew, el⟩ := R.bind_ok el
      have el' : us ++ ws = zs := by injection el
      subst el'
      unfold lcIn at eu
      obtain ⟨xs1, ef, eu⟩ := R.bind_ok eu
      refine iteT (hi1 ⟨Hf1, fun _ => .non⟩ (upd H0 Dd (.lst acc)) Hf5 H5 σ2 ρ1 _ J5 ?_)
      rw [ef]
      intro J1 Hf6 H6 x6 ⟨Y1, w1, hy1⟩
      have I6 := I5.grow x6
      have J6 := (J5.grow x6).rebaseN.wipe vs1
      have hf6 : Hf6 Dd = none := (I6.acc_at hDf).2
      refine it_any w1 (Bd := fun x H' Nx1 => g1 x (L2.wipe σ2 vs1) H' fun σ3 H5 => L2.wipe σ3 vs1 = L2.wipe σ2 vs1 ∧ tt1 σ3 H5 fun b H6 =>
        if b = true then te σ3 H6 fun y H7 => ∃ acc, H7 Dd = some (.lst acc) ∧ acc.length < sizeLine ∧ Nx1 (upd H7 Dd (.lst (acc ++ [y]))) else Nx1 H6)
        (fun j H7 => j ≤ xs1.length ∧ ∃ Hfj accj dsj vj, Ext Hf1 H1 Hfj H7 ∧ EnvOk c.K ⟨Hf1, fun _ => .non⟩ (upd H0 Dd (.lst accj)) Hfj H7 (L2.wipe σ vs) (wipeE ρ vs) ∧ EnvOk c.K ⟨Hf6, fun _ => .non⟩ (upd H0 Dd (.lst accj)) Hfj H7 (L2.wipe σ2 vs1) (wipeE ρ1 vs1) ∧ DpAll c.K Hfj accj dsj ∧ lcF k1 t1 e (wipeE ρ1 vs1) (xs1.drop j) = .ok vj ∧ ds ++ us = dsj ++ vj)
        ⟨Nat.zero_le _, Hf6, acc, ds, us, (x4.trans x5).trans x6, I6, J6, dpAll_mono x6.f hds5, by rw [List.drop_zero]; exact eu, rfl⟩ (fun j H7 _ ⟨_, Hfj, accj, dsj, vj, _, _, J7, _⟩ => J7.ext.f.trans J7.i) ?_ ?_
      · rintro j x' H7 H8 hlt1 ⟨_, Hfj, accj, dsj, vj, x7, I7, J7, hds7, el1, eq7⟩ y1
        obtain ⟨d1, Hf8, e8, x8, qd1⟩ := hy1 j H7 x' H8 Hfj hlt1 J7.ext.f J7.i y1
        have ed1 : xs1.drop j = d1 :: xs1.drop (j + 1) := by
          rw [List.drop_eq_getElem_cons hlt1]
          rw [List.getElem?_eq_getElem hlt1] at e8
          cases e8; rfl
        rw [ed1] at el1
        unfold lcF at el1
        split at el1
        rotate_left
        · cases el1
        rename_i ρ3 ek1
        obtain ⟨b1, et1, el1⟩ := R.bind_ok el1
        have X8 := x7.trans x8
        have I8 := I7.grow x8
        have J8 := J7.grow x8
        refine hg1 ⟨Hf6, fun _ => .non⟩ (upd H0 Dd (.lst accj)) Hf8 H8 (L2.wipe σ2 vs1) (wipeE ρ1 vs1) x' d1 _ J8 qd1 ⟨ρ3, ek1, fun σ3 l3 n3 L8 => ⟨wipe_back l3 n3 hs1, ?_⟩⟩
        refine ht1 ⟨Hf6, fun _ => .non⟩ (upd H0 Dd (.lst accj)) Hf8 H8 σ3 ρ3 _ L8 ?_
        rw [et1]
        intro Hf9 H9 x9
        have I9 := I8.grow x9
        have J9 := J8.grow x9
        have L9 := L8.grow x9
        have hds9 := dpAll_mono (x8.f.trans x9.f) hds7
        cases b1 with
        | false => exact iteF ⟨hlt1, Hf9, accj, dsj, vj, X8.trans x9, I9, J9, hds9, el1, eq7⟩
        | true =>
          obtain ⟨r, er, el1⟩ := R.bind_ok (show (e ρ3 >>= _) = _ from el1)
          obtain ⟨y', ey, el1⟩ := R.bind_ok el1
          obtain ⟨vv, ev, el1⟩ := R.bind_ok el1
          have el1' : y' :: vv = vj := by injection el1
          subst el1'
          refine iteT (he ⟨Hf6, fun _ => .non⟩ (upd H0 Dd (.lst accj)) Hf9 H9 σ3 ρ3 _ L9 ?_)
          rw [er]
          intro v Hf10 H10 x10 q10 fr
          obtain ⟨Hf11, x11, q11⟩ := froze x10 q10 (fr rfl) ey
          have I11 := I9.grow x11
          have J11 := J9.grow x11
          obtain ⟨hacc, hfd⟩ := I11.acc_at hDf
          have hle : accj.length < sizeLine := by
            have h1 := dpAll_len hds7
            have h2 : ys.length = dsj.length + (y' :: vv).length + ws.length := by rw [eq2, ← List.append_assoc, eq7, List.length_append, List.length_append]
            simp only [List.length_cons] at h2
            omega
          refine ⟨accj, hacc, hle, hlt1, Hf11, accj ++ [v], dsj ++ [y'], vv, ((X8.trans x9).trans x11).acc hD hfd, I11.acc hDf, J11.acc hf6, dpAll_append (dpAll_mono x11.f hds9) (.cons q11 .nil), ev, by rw [eq7, List.append_assoc]; rfl⟩
      · rintro H7 ⟨_, Hfj, accj, dsj, vj, x7, I7, J7, hds7, el1, eq7⟩
        rw [List.drop_length] at el1
        unfold lcF at el1
        have el1' : [] = vj := by injection el1
        subst el1'
        rw [List.append_nil] at eq7
        exact ⟨hlt, Hfj, accj, dsj, ws, x7, I7, hds7, ew, by rw [eq2, ← List.append_assoc, eq7]⟩
  · rintro H2 ⟨_, Hfi, acc, ds, zs, x2, I2, hds, el, eq2⟩
    rw [List.drop_length] at el
    unfold lc2F at el
    have el' : [] = zs := by injection el
    subst el'
    rw [List.append_nil] at eq2
    obtain ⟨hacc, hfd⟩ := I2.acc_at hDf
    subst eq2
    exact (show GE c true Hf H Q (.ol ys) from o1) _ _ _ (x1.trans x2) ⟨Dd, acc, rfl, hacc, hfd, hds⟩ fun _ _ p e => by cases e; exact x1.h.free hD
/-- list(x), tuple(x) in the body of a try -/
theorem cb_listTr {X : Cx} {pn : List (Addr × Obj)} {xe : Value → Shared → Prop} : CallR (X.tr pn xe) (.type "list") (rList X.K) := cb_list
theorem cb_tupTr {X : Cx} {pn : List (Addr × Obj)} {xe : Value → Shared → Prop} : CallR (X.tr pn xe) (.type "tuple") (rTupl X.K) := cb_tup
end
end Pl
/-! PlJ: code that is never come to; instances that do not change once they are made (.so; .oi is self within __init__); calls by keywords. -/
namespace Pl
open PySem PySem.Spec PyProof.Rows L2
section
variable {c : Ct}
def neverS : En → R Fl := fun _ => .bad
theorem sem_never : SemS c tNever neverS := fun _ _ _ _ _ _ _ _ o => o.elim
/-! ### reading an attribute -/
def fieldS (C0 nm : Str) (r : SV) : R SV := match r with
  | .so C fs => if C = C0 then (match fs.lookup nm with | some d => .ok (.d d) | none => .bad) else .bad
  | .oi C fs => if C = C0 then (match fs.lookup nm with | some d => .ok (.d d) | none => .bad) else .bad
  | _ => .bad
def fldE (C0 nm : Str) (f : En → R SV) : En → R SV := fun ρ => f ρ >>= fieldS C0 nm
theorem fsr_lookup {K : PySem.W.Frag} {Hf : Hp} {nm : Str} : ∀ {us : List (Str × V)} {fs : List (Str × D)} {d : D}, FsR K Hf us fs → fs.lookup nm = some d → ∃ v, us.lookup nm = some v ∧ Dp K Hf v d
  | _, _, _, .nil, e => by cases e
  | _, _, d, .cons (a := a) (b := b) q r, e => by
    obtain ⟨an, av⟩ := a
    obtain ⟨bn, bv⟩ := b
    obtain ⟨q1, q2⟩ := q
    have q1' : an = bn := q1
    subst q1'
    unfold List.lookup at e ⊢
    split at e
    · rename_i hb
      cases e
      exact ⟨av, rfl, q2⟩
    · exact fsr_lookup r e
structure ClsF (K : PySem.W.Frag) (C0 nm : Str) : Prop where
  cl : Cls K (clsAt K C0)
  no : NoAttr K (clsAt K C0) nm
theorem sem_fld {C0 nm : Str} {t : TE} {f : En → R SV} (hc : ClsF c.K.k C0 nm) (h : SemE c false t f) : SemE c true (tFld c.K.k t nm) (fldE C0 nm f) := by
  intro B H0 Hf H σ ρ Q I o
  refine h B H0 Hf H σ ρ _ I (Out.bind o fun r er o1 => fun v Hf1 H1 x1 q1 _ => ?_)
  have key : ∀ (C : Str) (fs : List (Str × D)), Out c Hf H (if C = C0 then (match fs.lookup nm with | some d => R.ok (SV.d d) | none => .bad) else .bad) (GE c true Hf H Q) → (∃ p dx us, v = .ref p ∧ H1 p = some (.ins (clsAt c.K.k C) dx us) ∧ FsR c.K.k Hf1 us fs) →
      ∃ a C dx fs u, v = .ref a ∧ H1 a = some (.ins C dx fs) ∧ Cls c.K.k C ∧ NoAttr c.K.k C nm ∧ fs.lookup nm = some u ∧ Q u H1 := by
    intro C fs o2 ⟨p, dx, us, hv, h1, h3⟩
    split at o2
    rotate_left
    · exact o2.elim
    rename_i hC
    subst hC
    split at o2
    rotate_left
    · exact o2.elim
    rename_i d hd
    obtain ⟨u, hu, hq⟩ := fsr_lookup h3 hd
    exact ⟨p, _, dx, us, u, hv, h1, hc.cl, hc.no, hu, GE.now (GE.grow (show GE c true Hf H Q _ from o2) x1) x1.i hq⟩
  unfold fieldS at o1
  cases r with
  | so C fs =>
    obtain ⟨p, dx, us, hv, h1, h3⟩ := q1
    exact key C fs o1 ⟨p, dx, us, hv, x1.i _ _ h1, h3⟩
  | oi C fs =>
    obtain ⟨p, dx, us, hv, h1, _, h3, _⟩ := q1
    exact key C fs o1 ⟨p, dx, us, hv, h1, h3⟩
  | _ => exact o1.elim
/-! ### storing an attribute of self -/
def putFD (nm : Str) (d : D) : List (Str × D) → List (Str × D)
  | [] => [(nm, d)]
  | (g, x) :: r => if g = nm then (g, d) :: r else (g, x) :: putFD nm d r
theorem fsr_put {K : PySem.W.Frag} {Hf : Hp} {nm : Str} {v : V} {d : D} (q : Dp K Hf v d) : ∀ {us : List (Str × V)} {fs : List (Str × D)}, FsR K Hf us fs → FsR K Hf (putF nm v us) (putFD nm d fs)
  | _, _, .nil => .cons ⟨rfl, q⟩ .nil
  | _, _, .cons (a := a) (b := b) p r => by
    obtain ⟨an, av⟩ := a
    obtain ⟨bn, bv⟩ := b
    obtain ⟨p1, p2⟩ := p
    have p1' : an = bn := p1
    subst p1'
    show FsR K Hf (if an = nm then (an, v) :: _ else (an, av) :: putF nm v _) (if an = nm then (an, d) :: _ else (an, bv) :: putFD nm d _)
    by_cases e : an = nm
    · rw [if_pos e, if_pos e]; exact .cons ⟨rfl, q⟩ r
    · rw [if_neg e, if_neg e]; exact .cons ⟨rfl, p2⟩ (fsr_put q r)
theorem fsr_len {K : PySem.W.Frag} {Hf : Hp} {us : List (Str × V)} {fs : List (Str × D)} (h : FsR K Hf us fs) : us.length = fs.length := Paired.length h
theorem ExFs.updI {K : Kx} {Hf H : Hp} {as : List D} {p : Addr} {C dx : Addr} {us : List (Str × V)} {o : HO} (hp : H p = some (.ins C dx us)) (h : ExFs K Hf H as) : ExFs K Hf (L2.upd H p o) as := by
  unfold ExFs at h ⊢
  split at h
  · exact h
  · obtain ⟨vs, h1, h2, h3⟩ := h
    exact ⟨vs, by rw [upd_ne (fun z => by subst z; rw [hp] at h1; cases h1)]; exact h1, h2, h3⟩
theorem EnvOk.rewriteI {K : Kx} {B : Bs} {H0 Hf H : Hp} {σ : L2.St} {ρ : En} {i : Nat} {s s' : SV} {p C dx : Addr} {fs : List (Str × V)} {o : HO} (I : EnvOk K B H0 Hf H σ ρ) (e : ρ[i]? = some (some s)) (ho : s.own = true) (h1 : σ[i]? = some (some (.ref p)))
    (h2 : H p = some (.ins C dx fs)) (h3 : Hf p = none) (q : RepR K Hf (upd H p o) (.ref p) s') (hs : s'.own = true) : EnvOk K B H0 Hf (upd H p o) σ (ρ.set i (some s')) := by
  have hn := I.new i _ p e ho h1
  refine ⟨⟨I.ext.f, fun b o eb => ?_, fun b o eb => ?_, I.ext.n⟩, by rw [List.length_set]; exact I.len, fun j s ej => ?_, fun j s q ej oj es => ?_, fun j k sj sk q ej oj ek ok e1 e2 => ?_, fun j ys ej => ?_⟩
  · rw [upd_ne (ne_of_none eb hn)]; exact I.ext.h _ _ eb
  · rw [upd_ne (ne_of_none eb h3)]; exact I.i _ _ eb
  · rcases set_get ej with ⟨rfl, ej, _⟩ | ⟨hj, ej⟩
    · cases ej
      exact ⟨_, h1, q⟩
    · obtain ⟨w, w1, w2⟩ := I.sl j s ej
      refine ⟨w, w1, ?_⟩
      cases s with
      | d x => exact w2
      | ol ys =>
        obtain ⟨q, us, rfl, u1, u2⟩ := w2
        have hq : q ≠ p := fun z => hj (I.sep j i _ _ p ej rfl e ho (z ▸ w1) h1)
        exact ⟨q, us, rfl, by rw [upd_ne hq]; exact u1, u2⟩
      | od ys =>
        obtain ⟨q, us, rfl, u1, u2⟩ := w2
        have hq : q ≠ p := fun z => hj (I.sep j i _ _ p ej rfl e ho (z ▸ w1) h1)
        exact ⟨q, us, rfl, by rw [upd_ne hq]; exact u1, u2⟩
      | pin ys =>
        obtain ⟨q, us, rfl, u1, u2⟩ := w2
        have hq : q ≠ p := I.pin_ne ej w1 hn
        exact ⟨q, us, rfl, by rw [upd_ne hq]; exact u1, u2⟩
      | exn n as => exact ⟨w2.1, w2.2.1, w2.2.2.updI h2⟩
      | pd ys => exact w2
      | kd ys =>
        obtain ⟨q, ep, us, rfl, u1, u2⟩ := w2
        have hq : q ≠ p := fun z => hj (I.sep j i _ _ p ej rfl e ho (z ▸ w1) h1)
        exact ⟨q, ep, us, rfl, by rw [upd_ne hq]; exact u1, u2⟩
      | sk ys => exact w2
      | sd ys => exact w2
      | so C fs => exact w2
      | rw _ _ _ _ => exact w2
      | oi C fs =>
        obtain ⟨q, dx, us, rfl, u1, u2⟩ := w2
        have hq : q ≠ p := fun z => hj (I.sep j i _ _ p ej rfl e ho (z ▸ w1) h1)
        exact ⟨q, dx, us, rfl, by rw [upd_ne hq]; exact u1, u2⟩
  · rcases set_get ej with ⟨rfl, ej, _⟩ | ⟨_, ej⟩
    · rw [h1] at es; cases es; exact hn
    · exact I.new j s q ej oj es
  · have old : ∀ {j : Nat} {t : SV}, (ρ.set i (some s'))[j]? = some (some t) → t.own = true → ∃ t', ρ[j]? = some (some t') ∧ t'.own = true := by
      intro j t ej oj
      rcases set_get ej with ⟨rfl, _, _⟩ | ⟨_, ej⟩
      · exact ⟨_, e, ho⟩
      · exact ⟨t, ej, oj⟩
    obtain ⟨sj', a1, a2⟩ := old ej oj
    obtain ⟨sk', b1, b2⟩ := old ek ok
    exact I.sep j k sj' sk' q a1 a2 b1 b2 e1 e2
  · rcases set_get ej with ⟨_, ej, _⟩ | ⟨_, ej⟩
    · cases ej; cases hs
    · exact I.pin j ys ej
/-- one attribute of slot i's self is written -/
def putAt (C0 : Str) (i : Nat) (nm : Str) (d : D) (ρ : En) : R En := match ρ[i]? with
  | some (some (.oi C fs)) => if C = C0 ∧ fs.length < 1000 then .ok (ρ.set i (some (.oi C (putFD nm d fs)))) else .bad
  | _ => .bad
theorem put_at_ok {C0 nm : Str} {i : Nat} {d : D} {ρ ρ' : En} {B : Bs} {H0 Hf H : Hp} {σ : L2.St} {v : V} (I : EnvOk c.K B H0 Hf H σ ρ) (q : Dp c.K.k Hf v d) (e : putAt C0 i nm d ρ = .ok ρ') :
    ∃ p dx us, σ[i]? = some (some (.ref p)) ∧ H p = some (.ins (clsAt c.K.k C0) dx us) ∧ us.length < 1000 ∧ EnvOk c.K B H0 Hf (upd H p (.ins (clsAt c.K.k C0) dx (putF nm v us))) σ ρ' := by
  unfold putAt at e
  split at e
  rotate_left
  · cases e
  rename_i C fs es
  split at e
  rotate_left
  · cases e
  rename_i hC
  obtain ⟨rfl, hl⟩ := hC
  cases e
  obtain ⟨w, h1, p, dx, us, rfl, h2, h3, h4, h5⟩ := I.sl i _ es
  exact ⟨p, dx, us, h1, h2, by rw [fsr_len h4]; exact hl, I.rewriteI es rfl h1 h2 h3 ⟨p, dx, _, rfl, upd_same, h3, fsr_put q h4, h5⟩ rfl⟩
def fldSt (C0 : Str) (i : Nat) (nm : Str) (f : En → R SV) : En → R Fl := fun ρ => f ρ >>= fun r => datS r >>= fun d => match putAt C0 i nm d ρ with
  | .ok ρ' => .ok (.nx ρ')
  | _ => .bad
theorem sem_fldSt {C0 nm : Str} {i : Nat} {t : TE} {f : En → R SV} (hc : ClsF c.K.k C0 nm) (h : SemE c true t f) : SemS c (sFld c.K.k (tVar i) t nm) (fldSt C0 i nm f) := by
  intro B H0 Hf H σ ρ Dn I o
  refine h B H0 Hf H σ ρ _ I ((Out.bind o fun a ea o1 => ?_ : Out c B H0 (f ρ) (GE c true Hf H _)).here I.ext)
  intro u Hf1 H1 x1 q1 fr
  obtain ⟨d, ed, o2⟩ := out_dat o1
  obtain ⟨Hf2, x2, q2⟩ := froze x1 q1 (fr rfl) ed
  split at o2
  rotate_left
  · exact o2.elim
  rename_i ρ' ep
  obtain ⟨p, dx, us, h1, h2, h3, I3⟩ := put_at_ok (I.grow x2) q2 ep
  exact ⟨_, h1, p, _, dx, us, rfl, h2, hc.cl, hc.no, h3, (show GS c B H0 Dn (.nx ρ') from o2) _ _ _ I3⟩
/-! ### self.a, self.b, .. = e -/
def gFld (K : PySem.W.Frag) (to : TE) (f : Str) : TG := fun v σ H Q => to σ H fun x H1 => ∃ a C dx fs, x = .ref a ∧ H1 a = some (.ins C dx fs) ∧ Cls K C ∧ NoAttr K C f ∧ fs.length < 1000 ∧ Q σ (upd H1 a (.ins C dx (putF f v fs)))
theorem pg_fld {X : Cx} {o : Expr} {f : Str} {pos : Pos} {to : TE} (ho : PE X o to) : PG X (.Attribute o f pos) (gFld X.K to f) := by
  refine ⟨fun pins s σ H v u Q I r h => ?_⟩
  rw [PySem.assign_Attribute]
  refine wpAny_bind (wpAny_holding (thn (ho.run pins s σ H _ I h) fun ov s1 ⟨x, H1, I1, r1, a, C, dx, fs, ex, ea, cl, n, l, q⟩ => ?_))
  subst ex
  obtain rfl : ov = Value.ref a := r1
  refine wpAny_bind (wpAny_standAt (wpAny_bind (wpAny_holding (setattr_ok I1 ea cl n l r fun s2 I2 => ?_))))
  exact wpAny_release ⟨σ, _, I2, q⟩
def SemFs (c : Ct) (g : TGs) (k : List D → En → R En) : Prop := ∀ B H0 Hf H σ ρ vs ds Q, EnvOk c.K B H0 Hf H σ ρ → DpAll c.K.k Hf vs ds → (∃ ρ', k ds ρ = .ok ρ' ∧ ∀ H', EnvOk c.K B H0 Hf H' σ ρ' → Q σ H') → g vs σ H Q
def putNo : List D → En → R En
  | [], ρ => .ok ρ
  | _, _ => .bad
def putCo (C0 : Str) (i : Nat) (nm : Str) (k : List D → En → R En) : List D → En → R En
  | d :: ds, ρ => putAt C0 i nm d ρ >>= k ds
  | [], _ => .bad
theorem sem_fsN : SemFs c gNil putNo := by
  intro B H0 Hf H σ ρ vs ds Q I q ⟨ρ', e, h⟩
  cases q with
  | nil => cases e; exact ⟨rfl, h H I⟩
  | cons _ _ => cases e
theorem sem_fsC {C0 nm : Str} {i : Nat} {u : TGs} {k : List D → En → R En} (hc : ClsF c.K.k C0 nm) (hu : SemFs c u k) : SemFs c (gCons (gFld c.K.k (tVar i) nm) u) (putCo C0 i nm k) := by
  intro B H0 Hf H σ ρ vs ds Q I q ⟨ρ', e, h⟩
  cases q with
  | nil => cases e
  | cons a b =>
    rename_i v vs d ds
    unfold putCo at e
    dsimp only at e
    cases e1 : putAt C0 i nm d ρ with
    | bad => rw [e1] at e; cases e
    | ex n as => rw [e1] at e; cases e
    | ok ρ1 =>
      rw [e1, ok_bind] at e
      obtain ⟨p, dx, us, h1, h2, h3, I3⟩ := put_at_ok I a e1
      exact ⟨v, vs, rfl, .ref p, h1, p, _, dx, us, rfl, h2, hc.cl, hc.no, h3, hu B H0 Hf _ σ ρ1 vs ds Q I3 b ⟨ρ', e, h⟩⟩
def fldsSt (n : Nat) (k : List D → En → R En) (f : En → R SV) : En → R Fl := fun ρ => f ρ >>= fun r => datS r >>= fun d => match d with
  | .tuple ds => if ds.length = n then (match k ds ρ with
    | .ok ρ' => .ok (.nx ρ')
    | _ => .bad) else .bad
  | _ => .bad
theorem sem_fldsSt {n : Nat} {t : TE} {u : TGs} {k : List D → En → R En} {f : En → R SV} (h : SemE c true t f) (hu : SemFs c u k) : SemS c (tAsg t (gSq c.K.k n u)) (fldsSt n k f) := by
  intro B H0 Hf H σ ρ Dn I o
  refine h B H0 Hf H σ ρ _ I ((Out.bind o fun a ea o1 => ?_ : Out c B H0 (f ρ) (GE c true Hf H fun x H1 => gSq c.K.k n u x σ H1 Dn.nx)).here I.ext)
  intro v Hf1 H1 x1 q1 fr
  obtain ⟨d, ed, o2⟩ := out_dat o1
  obtain ⟨Hf2, x2, q2⟩ := froze x1 q1 (fr rfl) ed
  split at o2
  rotate_left
  · exact o2.elim
  rename_i ds
  split at o2
  rotate_left
  · exact o2.elim
  rename_i hl
  split at o2
  rotate_left
  · exact o2.elim
  rename_i ρ' ek
  cases q2 with
  | tup h1 h2 =>
    exact .inl ⟨_, _, rfl, sqT_mono x2.i h1, by rw [dpAll_len h2]; exact hl, hu B H0 Hf2 H1 σ ρ _ _ _ (I.grow x2) h2 ⟨ρ', ek, fun H' I' => (show GS c B H0 Dn (.nx ρ') from o2) _ _ _ I'⟩⟩
/-! ### making an instance -/
def spI (w : World) (K : PySem.W.Frag) (C0 : Str) (n : Nat) (g : List SV → R (List (Str × D))) : Sp := fun vs H Q _ => ∃ (x dx : Addr) (ws : List V), vs = .ref x :: ws ∧ ws.length = n ∧ H x = some (.ins (clsAt K C0) dx []) ∧
  ∃ (ex : Exi) (Hf Hm : Hp) (rs : List SV) (fs : List (Str × D)), Same Hf Hm ∧ Same Hm H ∧ Hm x = none ∧ RepRs ⟨K, ex, w⟩ Hf Hm ws rs ∧ (∀ r ∈ rs, isShr r = true) ∧ g rs = .ok fs ∧
    ∀ Hf' H' dx' us, Ext Hf Hm Hf' H' → Hf' x = none → H' x = some (.ins (clsAt K C0) dx' us) → FsR K Hf' us fs → Q .non H'
def makeE (C0 : Str) (n : Nat) (g : List SV → R (List (Str × D))) (f : En → R (List SV)) : En → R SV := fun ρ => f ρ >>= fun rs => if rs.length = n then (match g rs with
  | .ok fs => .ok (.so C0 fs)
  | _ => .bad) else .bad
theorem sem_makeE {C0 : Str} {A : Addr} {n : Nat} {g : List SV → R (List (Str × D))} {t : TA} {f : En → R (List SV)} (hA : clsAt c.K.k C0 = A) (h : SemG' c t f) : SemE c true (tMake A (spI c.K.w c.K.k C0 n g) [] c.E t) (makeE C0 n g f) := by
  intro B H0 Hf H σ ρ Q I o
  refine h B H0 Hf H σ ρ _ I (Out.bind o fun rs ers o1 => fun vs Hf1 H1 x1 q1 sh => ?_)
  split at o1
  rotate_left
  · exact o1.elim
  rename_i hl
  split at o1
  rotate_left
  · exact o1.elim
  rename_i fs eg
  intro x dx hx hdx hne
  subst hA
  have s1 : Same H1 (upd (upd H1 dx (.own x)) x (.ins (clsAt c.K.k C0) dx [])) := (upd_grow hdx).trans (upd_grow (by rw [upd_ne (Ne.symm hne)]; exact hx))
  refine ⟨x, dx, vs ++ [], rfl, by rw [List.append_nil, repRs_len q1]; exact hl, upd_same, c.K.x, Hf1, H1, rs, fs, x1.i, s1, hx, by rw [List.append_nil]; exact q1, sh, eg, fun Hf' H' dx' us x2 hf' h' hfs => ⟨rfl, ?_⟩⟩
  refine (GE.grow (show GE c true Hf H Q (.so C0 fs) from o1) x1) (.ref x) (upd Hf' x (.ins (clsAt c.K.k C0) dx' us)) H' (shr_ext x2 h' hf' hx) ⟨x, dx', us, rfl, upd_same, fsr_mono (upd_grow hf') hfs⟩ fun _ z => nomatch z
def startI (C0 : Str) (N : Nat) (rs : List SV) : En := some (.oi C0 []) :: ((rs.map some) ++ List.replicate (N - 1 - rs.length) none)
def selfF (C0 : Str) (ρ : En) : R (List (Str × D)) := match ρ[(0 : Nat)]? with
  | some (some (.oi C fs)) => if C = C0 then .ok fs else .bad
  | _ => .bad
def endF (C0 : Str) : Fl → R (List (Str × D))
  | .nx ρ => selfF C0 ρ
  | _ => .bad
def runI (C0 : Str) (n N : Nat) (f : En → R Fl) (rs : List SV) : R (List (Str × D)) := if rs.length = n then f (startI C0 N rs) >>= endF C0 else .bad
theorem repR_ex {K : PySem.W.Frag} {w : World} {ex ex' : Exi} {Hf H H' : Hp} {v : V} : ∀ {r : SV}, isShr r = true → RepR ⟨K, ex, w⟩ Hf H v r → RepR ⟨K, ex', w⟩ Hf H' v r
  | .d _, _, h => h
  | .sk _, _, h => h
  | .sd _, _, h => h
  | .so _ _, _, h => h
theorem start_okI {K : PySem.W.Frag} {w : World} {ex : Exi} {Hf Hm H : Hp} {N : List Str} {x dx : Addr} {C0 : Str} {ws : List V} {rs : List SV} (i1 : Same Hf Hm) (i2 : Same Hm H) (hx : Hm x = none) (hi : H x = some (.ins (clsAt K C0) dx [])) (h : RepRs ⟨K, ex, w⟩ Hf Hm ws rs) (sh : ∀ r ∈ rs, isShr r = true) :
    EnvOk ⟨K, ⟨0, x, none⟩, w⟩ ⟨Hf, fun _ => .non⟩ Hm Hf H (L2.start N (.ref x :: ws)) (startI C0 N.length rs) := by
  have hl := repRs_len h
  have at_ : ∀ {j : Nat} {s : SV}, (startI C0 N.length rs)[j + 1]? = some (some s) → rs[j]? = some s := by
    intro j s e
    unfold startI at e
    rw [List.getElem?_cons_succ] at e
    rcases Nat.lt_or_ge j rs.length with z | z
    · rw [List.getElem?_append_left (by simpa using z), List.getElem?_map, List.getElem?_eq_getElem z] at e
      cases e
      exact List.getElem?_eq_getElem z
    · rw [List.getElem?_append_right (by simpa using z), List.getElem?_replicate] at e
      split at e <;> cases e
  have nown : ∀ {j : Nat} {s : SV}, (startI C0 N.length rs)[j + 1]? = some (some s) → s.own = false ∧ ∀ ys, s ≠ .pin ys := by
    intro j s e
    have := sh s (List.mem_of_getElem? (at_ e))
    cases s <;> first | (cases this; done) | exact ⟨rfl, fun _ z => by cases z⟩
  have s0 : ∀ s : SV, (startI C0 N.length rs)[0]? = some (some s) → s = .oi C0 [] := fun s e => by cases e; rfl
  have hfx : Hf x = none := i1.free hx
  have st0 : (L2.start N (.ref x :: ws))[0]? = some (some (.ref x)) := rfl
  refine ⟨⟨.refl _, i2, i1.trans i2, fun p hp => .inl hp⟩, by
    unfold L2.start startI
    simp [hl]
    omega, fun j s e => ?_, fun j s p e o es => ?_, fun j k sj sk p ej oj ek ok e1 e2 => ?_, fun j xs e => ?_⟩
  · cases j with
    | zero =>
      have := s0 s e
      subst this
      exact ⟨_, st0, x, dx, [], rfl, hi, hfx, .nil, rfl⟩
    | succ j =>
      obtain ⟨v, hv, q⟩ := repRs_get h (at_ e)
      refine ⟨v, ?_, repR_ex (sh s (List.mem_of_getElem? (at_ e))) q⟩
      unfold L2.start
      have hj : j < ws.length := (List.getElem?_eq_some_iff.mp hv).1
      rw [List.map_cons, List.cons_append, List.getElem?_cons_succ, List.getElem?_append_left (by simpa using hj), List.getElem?_map, hv] <;> rfl
  · cases j with
    | zero => rw [st0] at es; cases es; exact hx
    | succ j => rw [(nown e).1] at o; cases o
  · cases j with
    | zero =>
      cases k with
      | zero => rfl
      | succ k => rw [(nown ek).1] at ok; cases ok
    | succ j => rw [(nown ej).1] at oj; cases oj
  · cases j with
    | zero => cases s0 _ e
    | succ j => exact ((nown e).2 xs rfl).elim
theorem body_okI {w : World} {K : PySem.W.Frag} {cm : Nat → Addr × List Str} {E : XK} {N : List Str} {n : Nat} {C0 : Str} {t : TS} {f : En → R Fl} {vs : List V} {H : Hp} {Q : VK} (h : ∀ ex : Exi, SemS ⟨⟨K, ex, w⟩, cm, E⟩ t f) (hsp : spI w K C0 n (runI C0 n N.length f) vs H Q E) :
    t { nx := fun _ H' => Q .non H', rt := Q } (L2.start N vs) H := by
  obtain ⟨x, dx, ws, rfl, hl, hi, ex, Hf, Hm, rs, fs, i1, i2, hx, q, sh, hg, hQ⟩ := hsp
  have I := start_okI (N := N) i1 i2 hx hi q sh
  unfold runI at hg
  rw [if_pos (by rw [← repRs_len q]; exact hl)] at hg
  cases efl : f (startI C0 N.length rs) with
  | bad => rw [efl] at hg; cases hg
  | ex n as => rw [efl] at hg; cases hg
  | ok fl =>
    rw [efl, ok_bind] at hg
    refine h ⟨0, x, none⟩ ⟨Hf, fun _ => .non⟩ Hm Hf H _ _ _ I ?_
    rw [efl]
    cases fl with
    | nx ρ =>
      intro Hf2 H2 σ2 I2
      replace hg : selfF C0 ρ = .ok fs := hg
      unfold selfF at hg
      split at hg
      rotate_left
      · cases hg
      rename_i C fs' e0
      split at hg
      rotate_left
      · cases hg
      rename_i hC
      subst hC
      cases hg
      obtain ⟨v, h1, p, dx', us, rfl, h2, h3, h4, h5⟩ := I2.sl 0 _ e0
      have h5' : p = x := h5
      subst h5'
      exact hQ Hf2 H2 dx' us I2.ext h3 h2 h4
    | rt r => cases hg
    | bk ρ => cases hg
    | ct ρ => cases hg
end
section
variable {P : Program} {w : World} {K : PySem.W.Frag} {mg : Str → Option Value} {base : Heap}
theorem mk_okI {x qual C0 : Str} {st : Stmt} {f : Addr} {fd : FuncData} {N ps : List Str} {k n : Nat} {cm : Nat → Addr × List Str} {b : En → R Fl} (F : Fun K x qual st f fd) (S : FnScope N ps (defScope st)) (hn : n + 1 = ps.length)
    (hb : ∀ (cdv : Value) (A : Around) (outer : List Env) (s : Shared) (H : Hp) (E : XK), Room k (A.deeper (envOfC qual (defScope st) s.heap.objs.size f cdv)) →
      ∃ t, PSs (cxOf CX0 P w K mg base N qual (defScope st) f cdv A outer s H E).nox (defBody st) t ∧ ∀ ex : Exi, SemS ⟨⟨K, ex, w⟩, cm, E⟩ t b) :
    FnOk P w K mg base CX0 (k + 1) f fd ps (spI w K C0 n (runI C0 n N.length b)) := by
  refine F.ok S (fun vs H Q E h => by
    obtain ⟨x, dx, ws, rfl, hl, _⟩ := h
    rw [List.length_cons, hl, hn]) fun cdv A outer s H vs Q E hr h => ?_
  obtain ⟨t, h1, h2⟩ := hb cdv A outer s H E hr
  exact ⟨t, h1, body_okI h2 h⟩
end
/-! ### a call by keywords alone -/
section
variable {X : Cx} {CX : CXT} {k : Nat} {f : Addr} {fd : FuncData} {ps ks : List Str} {sp : Sp} {E : XK} {x : Str} {p pos : Pos} {kws : List Keyword} {tk : TA} {g : List Value → List Value → List Value} {gV : List V → List V → List V}
theorem pe_callN0 (F : FnOk X.prog X.w X.K X.mg X.base CX k f fd ps sp) (hr : Room k X.A) (hg : Gl X x) (hm : X.mg x = some (.ref f)) (hk : PySem.W.keepIn X.K (.ref f) = true) (hb : KBn X.K fd ps 0 ks g gV) (hx : Passes CX X E) (hkw : PK X kws tk)
    (hall : (backToKw pos (keywordEach kws X.env)).all (·.1.isSome) = true := by rfl) (hks : (backToKw pos (keywordEach kws X.env)).filterMap (·.1) = ks := by rfl) (hdb : (x == ("__debug__" : Str)) = false := by decide)
    (hpl : ((backTo pos (starEach [] X.env)).any (·.1) || (backToKw pos (keywordEach kws X.env)).any (·.1.isNone)) = false := by rfl) :
    PE X (.Call (.Name x p) [] kws pos) (tCallN 0 ks.length sp gV E tNil tk) := by
  refine ⟨fun pins s σ H Q I h => ?_⟩
  refine wpAny_Call_Name_kw (ld_glob I hg hm ?_ hdb)
  refine PySem.W.callWith_KW0 (h₀ := X.base) I.ok.mod.kin hk hall ?_ hpl
  refine thn (hkw.run pos pins s σ H _ I h) fun ws s2 ⟨zs, H2, I2, rz, l1, l2, q2⟩ => ⟨I2.kIn, ?_⟩
  rw [hks]
  exact run_fnN (us := []) (vs := []) F hr hb hx I2 .nil rz rfl l2 q2
end
theorem RepRs.append {K : Kx} {Hf H : Hp} : ∀ {vs ws : List V} {rs ss : List SV}, RepRs K Hf H vs rs → RepRs K Hf H ws ss → RepRs K Hf H (vs ++ ws) (rs ++ ss)
  | _, _, _, _, .nil, s => s
  | _, _, _, _, .cons r t, s => .cons r (RepRs.append t s)
theorem RepRs.take {K : Kx} {Hf H : Hp} : ∀ {vs : List V} {rs : List SV} (n : Nat), RepRs K Hf H vs rs → RepRs K Hf H (vs.take n) (rs.take n)
  | _, _, 0, _ => .nil
  | _, _, _ + 1, .nil => .nil
  | _, _, n + 1, .cons r t => .cons r (RepRs.take n t)
theorem RepRs.drop {K : Kx} {Hf H : Hp} : ∀ {vs : List V} {rs : List SV} (n : Nat), RepRs K Hf H vs rs → RepRs K Hf H (vs.drop n) (rs.drop n)
  | _, _, 0, r => r
  | _, _, _ + 1, .nil => .nil
  | _, _, n + 1, .cons _ t => RepRs.drop n t
/-- item j, if it is there, as a list -/
def at1 {α : Type} (xs : List α) (j : Nat) : List α := (xs.drop j).take 1
theorem RepRs.at1 {K : Kx} {Hf H : Hp} {vs : List V} {rs : List SV} (j : Nat) (h : RepRs K Hf H vs rs) : RepRs K Hf H (Pl.at1 vs j) (Pl.at1 rs j) := (h.drop j).take 1
theorem vals_at1 {vs : List V} {us : List Value} (j : Nat) (h : Vals vs us) : Vals (Pl.at1 vs j) (Pl.at1 us j) := (h.drop j).take 1
def pick {α : Type} (mz zs : List α) : List (Bool × Nat) → List α
  | [] => []
  | (b, j) :: r => (if b = true then at1 zs j else at1 mz j) ++ pick mz zs r
theorem RepRs.pick {K : Kx} {Hf H : Hp} {ms zs : List V} {mr zr : List SV} (h1 : RepRs K Hf H ms mr) (h2 : RepRs K Hf H zs zr) : ∀ l : List (Bool × Nat), RepRs K Hf H (Pl.pick ms zs l) (Pl.pick mr zr l)
  | [] => .nil
  | (b, j) :: r => by
    refine RepRs.append ?_ (RepRs.pick h1 h2 r)
    cases b
    · exact h1.at1 j
    · exact h2.at1 j
theorem vals_pick {ms zs : List V} {mr zr : List Value} (h1 : Vals ms mr) (h2 : Vals zs zr) : ∀ l : List (Bool × Nat), Vals (Pl.pick ms zs l) (Pl.pick mr zr l)
  | [] => .nil
  | (b, j) :: r => by
    refine Vals.append ?_ (vals_pick h1 h2 r)
    cases b
    · exact vals_at1 j h1
    · exact vals_at1 j h2
theorem pick_shr {mr zr : List SV} (h1 : ∀ r ∈ mr, isShr r = true) (h2 : ∀ r ∈ zr, isShr r = true) : ∀ (l : List (Bool × Nat)), ∀ r ∈ pick mr zr l, isShr r = true
  | [], r, h => nomatch h
  | (b, j) :: l, r, h => by
    rcases List.mem_append.mp h with h | h
    · cases b
      · exact h1 r (List.mem_of_mem_drop (List.mem_of_mem_take h))
      · exact h2 r (List.mem_of_mem_drop (List.mem_of_mem_take h))
    · exact pick_shr h1 h2 l r h
section
variable {c : Ct}
/-- the values of the keywords that lack: ms; l tells where each parameter's value stands -/
def callK (m n : Nat) (ms : List SV) (l : List (Bool × Nat)) (g : List SV → R SV) (f : En → R (List SV)) : En → R SV := fun ρ => f ρ >>= fun rs => if rs.length = m ∧ (pick ms rs l).length = n then g (pick ms rs l) else .bad
theorem sem_callK {m n : Nat} {ms : List SV} {mv : List V} {l : List (Bool × Nat)} {g : List SV → R SV} {t : TA} {f : En → R (List SV)} (hm : ∀ Hf H, RepRs c.K Hf H mv ms) (hs : ∀ r ∈ ms, isShr r = true) (h : SemG' c t f) :
    SemE c true (tCallN 0 m (spG c.K.w c.K c.cm n g) (fun _ zs => pick mv zs l) c.E tNil t) (callK m n ms l g f) := by
  intro B H0 Hf H σ ρ Q I o
  refine h B H0 Hf H σ ρ _ I (Out.bind o fun rs ers o1 => fun vs Hf1 H1 x1 q1 sh => ?_)
  split at o1
  rotate_left
  · exact o1.elim
  rename_i hl
  have q2 := (hm Hf1 H1).pick q1 l
  exact ⟨rfl, by rw [repRs_len q1]; exact hl.1, by rw [repRs_len q2]; exact hl.2, c.K.x, Hf1, pick ms rs l, x1.i, q2, pick_shr hs sh l, o1.grow x1 fun _ g => g.grow x1⟩
end
structure FnI (K : PySem.W.Frag) (x qual : Str) (st : Stmt) (ps : List Str) (f : Addr) (fd : FuncData) : Prop where
  F : Fun K x qual st f fd
  b : Binds K fd ps []
structure FnK (K : PySem.W.Frag) (mg : Str → Option Value) (x : Str) (st : Stmt) (kws : List (Str × V)) (f : Addr) (fd : FuncData) : Prop where
  F : Fun K x x st f fd
  m : mg x = some (.ref f)
  q : ∃ Dk : Addr, fd.params = defArgs st ∧ fd.defaults = .none ∧ fd.kwdefaults = .ref Dk ∧ ∀ p ∈ kws, ∃ u, PySem.W.nsIn K Dk p.1 = some (some u) ∧ RelV p.2 u
theorem dp_ktup {K : PySem.W.Frag} {Hf : Hp} {T : Addr} {o : Obj} {its : Array Value} {n : Nat} {vs : List V} {ds : List D} (h : K.lookup T = some o) (hc : o.cls = .type "tuple") (hd : o.data = .seq its n) (hs : its.size ≤ sizeLine) (hv : Vals vs its.toList) (hq : DpAll K Hf vs ds) : Dp K Hf (.ref T) (.tuple ds) :=
  .tup (.inr ⟨o, its, n, h, hc, hd, hs, hv⟩) hq
section
variable {P : Program} {w : World} {K : PySem.W.Frag} {mg : Str → Option Value} {base : Heap}
theorem mk_okGX {x qual : Str} {st : Stmt} {f : Addr} {fd : FuncData} {N ps : List Str} {k : Nat} {cm : Nat → Addr × List Str} {b : En → R Fl} (F : Fun K x qual st f fd) (S : FnScope N ps (defScope st))
    (hb : ∀ (cdv : Value) (A : Around) (outer : List Env) (s : Shared) (H : Hp) (E : XK), Room k (A.deeper (envOfC qual (defScope st) s.heap.objs.size f cdv)) →
      ∃ t, PSs (cxOf (L2.CX P w) P w K mg base N qual (defScope st) f cdv A outer s H E) (defBody st) t ∧ ∀ ex : Exi, SemS ⟨⟨K, ex, w⟩, cm, E⟩ t b) :
    FnOk P w K mg base (L2.CX P w) (k + 1) f fd ps (spG w K cm ps.length (runG ps.length N.length b)) := by
  refine F.okX S (fun vs H Q E h => h.1) fun cdv A outer s H vs Q E hr h => ?_
  obtain ⟨t, h1, h2⟩ := hb cdv A outer s H E hr
  exact ⟨t, h1, body_okG (ps := ps) h2 h⟩
end
theorem sem_callGE {c : Ct} {n : Nat} {g : List SV → R SV} {t : TA} {f : En → R (List SV)} (h : SemG' c t f) : SemE c true (tCallE (spG c.K.w c.K c.cm n g) c.E t) (callG n g f) := by
  intro B H0 Hf H σ ρ Q I o
  refine h B H0 Hf H σ ρ _ I (Out.bind o fun ds eds o1 => fun vs Hf1 H1 x1 q1 sh => ?_)
  split at o1
  · rename_i hl
    exact ⟨by rw [repRs_len q1]; exact hl, c.K.x, Hf1, ds, x1.i, q1, sh, o1.grow x1 fun _ g => g.grow x1⟩
  · exact o1.elim
end Pl
/-! PlK: a < b < c < d; xs.index(y); tuples that are constants of the module. -/
namespace Pl
open PySem PySem.Spec PyProof.Rows L2
def tChain3 (r1 r2 r3 : R2) (ta tb tc td : TE) : TE := fun σ H Q => ta σ H fun x H1 => tb σ H1 fun y H2 => r1 x y H2 fun z H3 => ∃ k, z = .bl k ∧
  (if k = true then tc σ H3 fun w H4 => r2 y w H4 fun z2 H5 => ∃ k2, z2 = .bl k2 ∧ (if k2 = true then td σ H5 fun u H6 => r3 w u H6 Q else Q (.bl false) H5) else Q (.bl false) H3)
theorem pe_chain3 {X : Cx} {op1 op2 op3 : CmpOp} {r1 r2 r3 : R2} {a b c d : Expr} {ta tb tc td : TE} {pos : Pos} (ho : OpR X (compareOp op1) r1) (ho' : OpR X (compareOp op2) r2) (ho'' : OpR X (compareOp op3) r3) (ha : PE X a ta) (hb : PE X b tb) (hc : PE X c tc) (hd : PE X d td)
    (hm : lastMarks [op1, op2, op3] [b, c, d] = false := by with_unfolding_all rfl) : PE X (.Compare a [op1, op2, op3] [b, c, d] pos) (tChain3 r1 r2 r3 ta tb tc td) := by
  refine ⟨fun pins s σ H Q I h => ?_⟩
  refine Compare_chain (thn (ha.run pins s σ H _ I h) fun v s1 ⟨x, H1, I1, q0, q1⟩ => chain_link (thn (hb.run pins s1 σ H1 _ I1 q1) fun u s2 ⟨y, H2, I2, p2, q2⟩ =>
    thn (ho pins s2 σ H2 x y v u _ I2 q0 p2 q2) fun e s3 ⟨z, H3, I3, p3, k, ek, q3⟩ => ?_)) hm
  subst ek
  cases p3
  refine wpAny_truthy_bool ?_
  cases k with
  | false => exact ite_ff ⟨.bl false, H3, I3, rfl, q3⟩
  | true =>
    refine ite_tt (chain_link (thn (hc.run pins s3 σ H3 _ I3 q3) fun w s4 ⟨w', H4, I4, p4, q4⟩ => thn (ho' pins s4 σ H4 y w' u w _ I4 p2 p4 q4) fun e2 s5 ⟨z2, H5, I5, p5, k2, ek2, q5⟩ => ?_))
    subst ek2
    cases p5
    refine wpAny_truthy_bool ?_
    cases k2 with
    | false => exact ite_ff ⟨.bl false, H5, I5, rfl, q5⟩
    | true => exact ite_tt (chain_last (thn (hd.run pins s5 σ H5 _ I5 q5) fun u2 s6 ⟨u', H6, I6, p6, q6⟩ => ho'' pins s6 σ H6 w' u' w u2 Q I6 p4 p6 q6))
section
variable {c : Ct}
def chain3 (g1 g2 g3 : SV → SV → R SV) (fa fb fc fd : En → R SV) : En → R SV := fun ρ => fa ρ >>= fun a => fb ρ >>= fun b => g1 a b >>= fun z => bool1 z >>= fun k =>
  if k = true then fc ρ >>= fun w => g2 b w >>= fun z2 => bool1 z2 >>= fun k2 => if k2 = true then fd ρ >>= fun u => g3 w u else .ok (.d (.bool false)) else .ok (.d (.bool false))
theorem sem_chain3 {r1 r2 r3 : R2} {g1 g2 g3 : SV → SV → R SV} {ta tb tc td : TE} {fa fb fc fd : En → R SV} (h1 : R2ok c r1 g1) (h2 : R2ok c r2 g2) (h3 : R2ok c r3 g3) (ha : SemE c false ta fa) (hb : SemE c false tb fb) (hc : SemE c false tc fc) (hd : SemE c false td fd) :
    SemE c true (tChain3 r1 r2 r3 ta tb tc td) (chain3 g1 g2 g3 fa fb fc fd) := by
  intro B H0 Hf H σ ρ Q I o
  refine ha B H0 Hf H σ ρ _ I (Out.bind o fun a ea o1 => fun v Hf1 H1 x1 q1 _ => ?_)
  refine hb B H0 Hf1 H1 σ ρ _ (I.grow x1) (Out.bind (o1.grow x1 fun _ z => z) fun b eb o2 => fun u Hf2 H2 x2 q2 _ => ?_)
  refine h1 Hf2 H2 v u a b _ x2.i (q1.grow x2) q2 (Out.bind (o2.grow x2 fun _ z => z) fun z ez o3 => fun w Hf3 H3 x3 q3 _ => ?_)
  obtain ⟨k, e, o4⟩ := out_bool o3
  refine ⟨k, bool1_ok q3 e, ?_⟩
  have X := (x1.trans x2).trans x3
  cases k with
  | false => exact iteF (GE.now (GE.grow (show GE c true Hf H Q _ from o4) X) X.i (.bl _))
  | true =>
    refine iteT (hc B H0 Hf3 H3 σ ρ _ (I.grow X) (Out.bind (o4.grow x3 fun _ z => z) fun y ey o5 => fun w2 Hf4 H4 x4 q4 _ => ?_))
    refine h2 Hf4 H4 u w2 b y _ x4.i ((q2.grow x3).grow x4) q4 (Out.bind (o5.grow x4 fun _ g => g) fun z2 ez2 o6 => fun w3 Hf5 H5 x5 q5 _ => ?_)
    obtain ⟨k2, e2, o7⟩ := out_bool o6
    refine ⟨k2, bool1_ok q5 e2, ?_⟩
    have Y := (X.trans x4).trans x5
    cases k2 with
    | false => exact iteF (GE.now (GE.grow (show GE c true Hf H Q _ from o7) Y) Y.i (.bl _))
    | true =>
      refine iteT (hd B H0 Hf5 H5 σ ρ _ (I.grow Y) (Out.bind (o7.grow x5 fun _ z => z) fun y2 ey2 o8 => fun w4 Hf6 H6 x6 q6 _ => ?_))
      exact h3 Hf6 H6 w2 w4 y y2 Q x6.i ((q4.grow x5).grow x6) q6 (o8.grow x6 fun _ g => GE.grow g (Y.trans x6))
/-! ### xs.index(y), flat -/
def idxS (xs : List D) (b : SV) : R SV := match b with
  | .d y => if flat y = true ∧ xs.all flat = true then (match xs.findIdx? (fun z => PyData.eqv z y) with
    | some j => .ok (.d (.int (j : Nat)))
    | none => .bad) else .bad
  | _ => .bad
def idxE (f g : En → R SV) : En → R SV := fun ρ => f ρ >>= fun a => datL a >>= fun xs => g ρ >>= idxS xs
theorem sem_index {t u : TE} {f g : En → R SV} (h : SemE c false t f) (h' : SemE c false u g) : SemE c true (tBM c.K.k "list" (rIndex c.K.k) t (tCons u tNil)) (idxE f g) := by
  intro B H0 Hf H σ ρ Q I o
  refine h B H0 Hf H σ ρ _ I (Out.bind o fun a ea o1 => fun v Hf1 H1 x1 q1 _ => ?_)
  cases el : datL a with
  | bad => rw [el] at o1; exact o1.elim
  | ex n as =>
    exfalso
    revert el
    cases a with
    | d x => cases x <;> intro el <;> cases el
    | _ => intro el; cases el
  | ok xs =>
    rw [el, ok_bind] at o1
    obtain ⟨p, vs, rfl, hl, hq⟩ := datL_ok x1.i q1 el
    refine ⟨.inl ⟨rfl, vs, hl⟩, ?_⟩
    refine h' B H0 Hf1 H1 σ ρ _ (I.grow x1) (Out.bind (o1.grow x1 fun _ z => z) fun b eb o2 => fun w Hf2 H2 x2 q2 fr2 => ?_)
    clear fr2
    unfold idxS at o2
    split at o2
    rotate_left
    · exact o2.elim
    rename_i y
    split at o2
    rotate_left
    · exact o2.elim
    rename_i hfl
    split at o2
    rotate_left
    · exact o2.elim
    rename_i j ej
    obtain ⟨hj, e1, e2⟩ := List.findIdx?_eq_some_iff_getElem.mp ej
    have q2' : Dp c.K.k H2 w y := dp_mono x2.i q2
    have hq' := dpAll_mono (x2.f.trans x2.i) hq
    obtain ⟨z, hz, hzd⟩ := dpAll_get hq' (List.getElem?_eq_getElem hj)
    have fl : ∀ d ∈ xs, flat d = true := List.all_eq_true.mp hfl.2
    refine ⟨p, vs, w, j, z, rfl, rfl, x2.h.seq hl, flat_of q2' hfl.1, flatAll_of hq' hfl.2, hz, ?_, fun m z' hm hz' => ?_, ?_⟩
    · rw [eqV_of hzd q2' (fl _ (List.getElem_mem hj)) hfl.1]; exact e1
    · obtain ⟨d', hd', hdd⟩ := dpAll_getV hq' hz'
      have hml : m < xs.length := by omega
      have := e2 m hm
      rw [List.getElem?_eq_getElem hml] at hd'
      cases hd'
      rw [eqV_of hdd q2' (fl _ (List.getElem_mem hml)) hfl.1]
      simpa using this
    · exact GE.now (GE.grow (GE.grow (show GE c true Hf H Q _ from o2) x1) x2) x2.i (.int _)
end
/-! ### how a call by keywords alone binds -/
theorem looks_for {α σ : Type} {M : Model} {h : Heap} {f : α → σ → Sem (ForInStep σ)} (st : List α → σ) (l : List α) (H : ∀ l1 a l2, l = l1 ++ a :: l2 → PySem.W.Looks M h (f a (st l1)) (.yield (st (l1 ++ [a])))) : PySem.W.Looks M h (forIn l (st []) f) (st l) := by
  suffices g : ∀ l2 l1, l = l1 ++ l2 → PySem.W.Looks M h (forIn l2 (st l1) f) (st l) by exact g l [] rfl
  intro l2
  induction l2 with
  | nil => intro l1 e; rw [List.append_nil] at e; subst e; exact PySem.W.Looks.of_pure rfl
  | cons a l2 ih =>
    intro l1 e
    rw [List.forIn_cons]
    exact (H l1 a l2 e).andThen (ih (l1 ++ [a]) (by rw [e, List.append_assoc]; rfl))
def fillK (d : Str → Value) (s : List (Str × Value)) (n : Str) : List (Str × Value) := if (s.lookup n).isNone = true then s ++ [(n, d n)] else s
theorem fill_app (d : Str → Value) : ∀ (ns : List Str) (s : List (Str × Value)), ∃ t, ns.foldl (fillK d) s = s ++ t
  | [], s => ⟨[], by simp⟩
  | n :: ns, s => by
    rw [List.foldl_cons]
    obtain ⟨t, e⟩ := fill_app d ns (fillK d s n)
    rw [e]
    unfold fillK
    split
    · exact ⟨(n, d n) :: t, by rw [List.append_assoc]; rfl⟩
    · exact ⟨t, rfl⟩
theorem lookup_or (s t : List (Str × Value)) (n : Str) : (s ++ t).lookup n = (s.lookup n).or (t.lookup n) := by
  induction s with
  | nil => rfl
  | cons p s ih =>
    obtain ⟨k, v⟩ := p
    rw [List.cons_append, List.lookup_cons, List.lookup_cons]
    split
    · rfl
    · exact ih
theorem fill_look (d : Str → Value) : ∀ (ns : List Str) (s : List (Str × Value)) (n : Str), n ∈ ns → (ns.foldl (fillK d) s).lookup n = some ((s.lookup n).getD (d n))
  | m :: ns, s, n, h => by
    rw [List.foldl_cons]
    by_cases c : n ∈ ns
    · rw [fill_look d ns _ n c]
      unfold fillK
      split
      · rename_i hm
        rw [lookup_or]
        cases e : s.lookup n with
        | some v => rfl
        | none =>
          rw [Option.none_or, List.lookup_cons]
          split
          · rename_i hb
            rw [show n = m from beq_iff_eq.mp hb]; rfl
          · rfl
      · rfl
    · have e : n = m := by
        rcases List.mem_cons.mp h with e | e
        · exact e
        · exact absurd e c
      subst e
      obtain ⟨t, et⟩ := fill_app d ns (fillK d s n)
      rw [et, lookup_or]
      unfold fillK
      cases e : s.lookup n with
      | some v => simp [e]
      | none => simp [lookup_or, e]
theorem filterMap_all {α β : Type} {f : α → Option β} {g : α → β} : ∀ {l : List α}, (∀ n ∈ l, f n = some (g n)) → l.filterMap f = l.map g
  | [], _ => rfl
  | a :: l, h => by
    rw [List.filterMap_cons, h a List.mem_cons_self, List.map_cons]
    dsimp only
    rw [filterMap_all fun n hn => h n (List.mem_cons_of_mem _ hn)]
theorem looks_kw {K : PySem.W.Frag} {M : Model} {h : Heap} (X : K.In h) (fd : FuncData) (ns : List Str) (kw : List (Str × Value)) (d : Str → Value) (D : Addr) (h1 : fd.params.posonlyargs = []) (h2 : fd.params.args = []) (h3 : fd.params.vararg = none) (h4 : fd.params.kwarg = none) (h5 : fd.defaults = .none) (h6 : fd.kwdefaults = .ref D)
    (hn : fd.params.kwonlyargs.map (·.arg) = ns) (hk : ∀ l1 a l2, kw = l1 ++ a :: l2 → ns.contains a.1 = true ∧ (l1.lookup a.1).isSome = false) (hd : ∀ n ∈ ns, kw.lookup n = none → PySem.W.nsIn K D n = some (some (d n))) :
    PySem.W.Looks M h (bindArgs fd ⟨[], kw⟩) (ns.map fun n => (n, (kw.lookup n).getD (d n))) := by
  unfold bindArgs
  simp only [h1, h2, h3, h4, h5, h6, hn, List.map_nil, List.nil_append, List.zip_nil_right, List.zip_nil_left, List.length_nil, List.append_nil, List.contains_nil, Bool.false_or, Option.isSome_none, Bool.false_eq_true, if_false]
  refine PySem.W.Looks.andThen (a := (kw, [])) (looks_for (fun l => (l, ([] : List (Str × Value)))) kw fun l1 a l2 e => ?_) ?_
  · obtain ⟨k1, k2⟩ := hk l1 a l2 e
    refine PySem.W.Looks.of_pure ?_
    simp only [k1, if_true, k2, Bool.false_eq_true, if_false]
  · refine PySem.W.Looks.andThen (a := none) (PySem.W.Looks.of_pure rfl) ?_
    · show PySem.W.Looks M h (if _ then _ else _) _
      rw [if_neg (by simp), if_neg (by simp)]
      refine PySem.W.Looks.andThen (a := kw) (PySem.W.Looks.of_pure (by simp)) ?_
      refine PySem.W.Looks.andThen (a := (ns.foldl (fillK d) kw, [])) (looks_for (fun l => (l.foldl (fillK d) kw, ([] : List Str))) ns fun l1 a l2 e => ?_) ?_
      · rw [List.foldl_append, List.foldl_cons, List.foldl_nil]
        unfold fillK
        dsimp only
        split
        · rename_i hc
          obtain ⟨t, et⟩ := fill_app d l1 kw
          have hkw : kw.lookup a = none := by
            have : (List.foldl (fillK d) kw l1).lookup a = none := by
              cases e2 : (List.foldl (fillK d) kw l1).lookup a with
              | none => rfl
              | some v =>
                have e2' := e2
                unfold fillK at e2'
                rw [e2'] at hc
                cases hc
            rw [et, lookup_or] at this
            cases e3 : kw.lookup a with
            | none => rfl
            | some v => rw [e3] at this; cases this
          exact PySem.W.Looks.andThen (PySem.W.looks_nsIn X (hd a (by rw [e]; simp) hkw)) (PySem.W.Looks.of_pure rfl)
        · exact PySem.W.Looks.of_pure rfl
      · refine PySem.W.Looks.of_pure ?_
        rw [if_neg (by simp)]
        congr 1
        have : ∀ n ∈ ns, (List.lookup n (ns.foldl (fillK d) kw)).map (fun x => (n, x)) = some (n, (kw.lookup n).getD (d n)) := fun n hn => by rw [fill_look d ns kw n hn]; rfl
        exact filterMap_all this
/-- where each parameter's value stands: in the call's keywords or among those that lack -/
def chkK (ks lack : List Str) : List Str → List (Bool × Nat) → Bool
  | [], [] => true
  | n :: ns, (b, j) :: l => (if b = true then ks[j]? == some n else (lack[j]? == some n) && !ks.contains n) && chkK ks lack ns l
  | _, _ => false
theorem zip_look {n : Str} : ∀ {ks : List Str} {ws : List Value} {j : Nat}, ks.Nodup → ks.length = ws.length → ks[j]? = some n → ∃ v, (ks.zip ws).lookup n = some v ∧ at1 ws j = [v]
  | [], _, j, _, _, e => by simp at e
  | k :: ks, [], j, _, h, _ => by simp at h
  | k :: ks, w :: ws, 0, nd, h, e => by
    simp at e
    subst e
    exact ⟨w, by simp, rfl⟩
  | k :: ks, w :: ws, j + 1, nd, h, e => by
    have e' : ks[j]? = some n := by simpa using e
    obtain ⟨v, h1, h2⟩ := zip_look (ws := ws) (List.nodup_cons.mp nd).2 (by simpa using h) e'
    refine ⟨v, ?_, h2⟩
    rw [List.zip_cons_cons, List.lookup_cons]
    have : ¬ n = k := fun z => (List.nodup_cons.mp nd).1 (z ▸ List.mem_of_getElem? e')
    rw [beq_eq_false_iff_ne.mpr this]
    exact h1
theorem zip_none {n : Str} {ks : List Str} {ws : List Value} (h : ks.contains n = false) : (ks.zip ws).lookup n = none := by
  rw [List.lookup_eq_none_iff]
  intro p hp
  have hm : p.1 ∈ ks := (List.of_mem_zip hp).1
  by_cases c : n = p.1
  · rw [c] at h
    have := List.contains_iff_mem.mpr hm
    rw [h] at this; cases this
  · simpa using c
theorem chk_pick {ks lack : List Str} {ws mv : List Value} (h1 : ks.Nodup) (h2 : ks.length = ws.length) (h3 : lack.Nodup) (h4 : lack.length = mv.length) : ∀ {ns : List Str} {l : List (Bool × Nat)}, chkK ks lack ns l = true →
    ns.map (fun n => (n, ((ks.zip ws).lookup n).getD (((lack.zip mv).lookup n).getD .none))) = ns.zip (pick mv ws l) ∧ ∀ n ∈ ns, (ks.zip ws).lookup n = none → ∃ v, (lack.zip mv).lookup n = some v
  | [], [], _ => ⟨rfl, fun _ h => nomatch h⟩
  | [], _ :: _, e => by cases e
  | _ :: _, [], e => by cases e
  | n :: ns, (b, j) :: l, e => by
    unfold chkK at e
    rw [Bool.and_eq_true] at e
    obtain ⟨i1, i2⟩ := chk_pick h1 h2 h3 h4 e.2
    cases b with
    | true =>
      have e1 : ks[j]? = some n := by simpa using e.1
      obtain ⟨v, a1, a2⟩ := zip_look h1 h2 e1
      refine ⟨?_, fun m hm hz => ?_⟩
      · rw [List.map_cons, i1, a1]
        show (n, v) :: _ = (n :: ns).zip (at1 ws j ++ pick mv ws l)
        rw [a2]; rfl
      · rcases List.mem_cons.mp hm with rfl | hm
        · rw [a1] at hz; cases hz
        · exact i2 m hm hz
    | false =>
      have e1 := e.1
      rw [if_neg (by decide), Bool.and_eq_true, Bool.not_eq_true'] at e1
      have e2 : lack[j]? = some n := by simpa using e1.1
      obtain ⟨v, a1, a2⟩ := zip_look h3 h4 e2
      refine ⟨?_, fun m hm hz => ?_⟩
      · rw [List.map_cons, i1, zip_none e1.2, a1]
        show (n, v) :: _ = (n :: ns).zip (at1 mv j ++ pick mv ws l)
        rw [a2]; rfl
      · rcases List.mem_cons.mp hm with rfl | hm
        · exact ⟨v, a1⟩
        · exact i2 m hm hz
def nodupB : List Str → Bool
  | [] => true
  | k :: ks => !ks.contains k && nodupB ks
theorem nodupB_ok : ∀ {ks : List Str}, nodupB ks = true → ks.Nodup
  | [], _ => .nil
  | k :: ks, h => by
    unfold nodupB at h
    rw [Bool.and_eq_true, Bool.not_eq_true'] at h
    refine List.nodup_cons.mpr ⟨fun hm => ?_, nodupB_ok h.2⟩
    rw [List.contains_iff_mem.mpr hm] at h
    cases h.1
theorem look_mem {n : Str} {v : Value} {l : List (Str × Value)} (h : l.lookup n = some v) : (n, v) ∈ l := by
  induction l with
  | nil => cases h
  | cons p l ih =>
    obtain ⟨k, u⟩ := p
    rw [List.lookup_cons] at h
    split at h
    · rename_i hb
      cases h
      rw [show n = k from beq_iff_eq.mp hb]
      exact List.mem_cons_self
    · exact List.mem_cons_of_mem _ (ih h)
theorem kbn_of {K : PySem.W.Frag} {mg : Str → Option Value} {x : Str} {st : Stmt} {kws : List (Str × V)} {f : Addr} {fd : FuncData} (T : FnK K mg x st kws f fd) {ps ks : List Str} {l : List (Bool × Nat)} (ms : List (Str × V)) (lack : List Str) (hla : ms.map (·.1) = lack) (hms : ∀ q ∈ ms, q ∈ kws)
    (h1 : (defArgs st).posonlyargs = []) (h2 : (defArgs st).args = []) (h3 : (defArgs st).vararg = none) (h4 : (defArgs st).kwarg = none) (hn : (defArgs st).kwonlyargs.map (·.arg) = ps)
    (hc : (chkK ks lack ps l && nodupB ks && nodupB lack && ks.all ps.contains) = true) :
    ∃ mv : List Value, KBn K fd ps 0 ks (fun _ ws => pick mv ws l) (fun _ zs => pick (ms.map (·.2)) zs l) := by
  subst hla
  obtain ⟨Dk, e1, e2, e3, e4⟩ := T.q
  obtain ⟨mv, hl, hv, hq⟩ := kwd_vals (K := K) (D := Dk) (ms := ms) fun q hq => e4 q (hms q hq)
  rw [Bool.and_eq_true, Bool.and_eq_true, Bool.and_eq_true] at hc
  obtain ⟨⟨⟨c1, c2⟩, c3⟩, c4⟩ := hc
  have nk := nodupB_ok c2
  refine ⟨mv, ⟨fun s us ws X l1 l2 => ?_, fun _ r => vals_pick hv r l⟩⟩
  have hus : us = [] := List.length_eq_zero_iff.mp l1
  subst hus
  obtain ⟨g1, g2⟩ := chk_pick (ws := ws) (mv := mv) nk l2.symm (nodupB_ok c3) (by rw [List.length_map]; exact hl.symm) c1
  refine BindsTo.of_looks fun M => ?_
  have k := looks_kw (M := M) X fd ps (ks.zip ws) (fun n => (((ms.map (·.1)).zip mv).lookup n).getD .none) Dk (by rw [e1]; exact h1) (by rw [e1]; exact h2) (by rw [e1]; exact h3) (by rw [e1]; exact h4) e2 e3 (by rw [e1]; exact hn) (fun a b c e => ?_) fun n hn hz => ?_
  · rw [g1] at k
    exact k
  · have hb : b.1 ∈ ks := by
      have hm : b ∈ ks.zip ws := by rw [e]; simp
      exact (List.of_mem_zip hm).1
    refine ⟨List.all_eq_true.mp c4 _ hb, ?_⟩
    have hks : ks = a.map Prod.fst ++ b.1 :: c.map Prod.fst := by
      have : (ks.zip ws).map Prod.fst = ks := List.map_fst_zip (by omega)
      rw [← this, e]; simp
    rw [hks] at nk
    have nm : b.1 ∉ a.map Prod.fst := fun hm => by
      have := (List.nodup_append.mp nk).2.2 _ hm _ List.mem_cons_self
      exact this rfl
    cases q : a.lookup b.1 with
    | none => rfl
    | some v => exact absurd (List.mem_map.mpr ⟨_, look_mem q, rfl⟩) nm
  · obtain ⟨v, hv2⟩ := g2 n hn hz
    rw [hv2]
    exact hq _ (look_mem hv2)
end Pl
namespace Pl
open PySem PySem.Spec PyProof.Rows L2
variable {c : Ct}
/-! ### a tuple or a list that begins with an instance -/
def rowE (b : Bool) (f : En → R SV) (g : En → R (List D)) : En → R SV := fun ρ => f ρ >>= fun r => match r with
  | .so C fs => g ρ >>= fun ds => if ds.length ≤ 999 then .ok (.rw b C fs ds) else .bad
  | _ => .bad
theorem sem_rowT {te : TE} {t : TA} {f : En → R SV} {g : En → R (List D)} (h : SemE c true te f) (h' : SemA c t g) : SemE c true (tTup (tCons te t)) (rowE true f g) := by
  intro B H0 Hf H σ ρ Q I o
  refine h B H0 Hf H σ ρ _ I (Out.bind o fun a ea o1 => fun v Hf1 H1 x1 q1 fr => ?_)
  cases a with
  | so C fs =>
    refine h' B H0 Hf1 H1 σ ρ _ (I.grow x1) (Out.bind (o1.grow x1 fun _ z => z) fun ds eds o3 => fun vs Hf3 H3 x3 q3 => ?_)
    split at o3
    · rename_i hl
      obtain ⟨p0, dx, us, rfl, h1, h3⟩ := q1.grow x3
      refine ⟨Nat.le_of_lt (small1000 (by rw [List.length_cons, dpAll_len q3]; omega)), fun p hp => ?_⟩
      have sm := upd_grow (o := HO.tup (.ref p0 :: vs)) (x3.i.free hp)
      exact (show GE c true Hf H Q (.rw true C fs ds) from o3) (.ref p) (upd Hf3 p (.tup (.ref p0 :: vs))) (upd H3 p (.tup (.ref p0 :: vs))) ((x1.trans x3).trans (.laid x3.i hp)) ⟨p, p0, dx, us, vs, rfl, upd_same, sm _ _ h1, fsr_mono sm h3, dpAll_mono sm q3⟩ fun _ z => nomatch z
    · exact o3.elim
  | _ => exact o1.elim
theorem sem_rowL {te : TE} {t : TA} {f : En → R SV} {g : En → R (List D)} (h : SemE c true te f) (h' : SemA c t g) : SemE c true (tLst (tCons te t)) (rowE false f g) := by
  intro B H0 Hf H σ ρ Q I o
  refine h B H0 Hf H σ ρ _ I (Out.bind o fun a ea o1 => fun v Hf1 H1 x1 q1 fr => ?_)
  cases a with
  | so C fs =>
    refine h' B H0 Hf1 H1 σ ρ _ (I.grow x1) (Out.bind (o1.grow x1 fun _ z => z) fun ds eds o3 => fun vs Hf3 H3 x3 q3 => ?_)
    split at o3
    · rename_i hl
      obtain ⟨p0, dx, us, rfl, h1, h3⟩ := q1.grow x3
      refine ⟨Nat.le_of_lt (small1000 (by rw [List.length_cons, dpAll_len q3]; omega)), fun p hp => ?_⟩
      have sm := upd_grow (o := HO.lst (.ref p0 :: vs)) (x3.i.free hp)
      exact (show GE c true Hf H Q (.rw false C fs ds) from o3) (.ref p) (upd Hf3 p (.lst (.ref p0 :: vs))) (upd H3 p (.lst (.ref p0 :: vs))) ((x1.trans x3).trans (.laid x3.i hp)) ⟨p, p0, dx, us, vs, rfl, upd_same, sm _ _ h1, fsr_mono sm h3, dpAll_mono sm q3⟩ fun _ z => nomatch z
    · exact o3.elim
  | _ => exact o1.elim
/-- x, a, b = such a row -/
def asgW (i n : Nat) (ks : List D → En → R En) (f : En → R SV) : En → R Fl := fun ρ => f ρ >>= fun r => match r with
  | .rw _ C fs xs => if xs.length + 1 = n then (match ks xs (ρ.set i (some (.so C fs))) with
    | .ok ρ' => .ok (.nx ρ')
    | _ => .bad) else .bad
  | _ => .bad
theorem sem_asgW {i n : Nat} {js : List Nat} {t : TE} {u : TGs} {ks : List D → En → R En} {f : En → R SV} (h : SemE c true t f) (hg : SemGs c js u ks) : SemS c (tAsg t (gSq c.K n (gCons (gName i) u))) (asgW i n ks f) := by
  intro B H0 Hf H σ ρ Dn I o
  refine h B H0 Hf H σ ρ _ I ((Out.bind o fun a ea o1 => ?_ : Out c B H0 (f ρ) (GE c true Hf H fun x H1 => gSq c.K n (gCons (gName i) u) x σ H1 Dn.nx)).here I.ext)
  intro v Hf1 H1 x1 q1 fr
  cases a with
  | rw b C fs xs =>
    have o2 : Out c B.h H0 (if xs.length + 1 = n then (match ks xs (ρ.set i (some (.so C fs))) with
      | .ok ρ' => R.ok (Fl.nx ρ')
      | _ => .bad) else .bad) (GS c B H0 Dn) := o1
    split at o2
    · rename_i hl
      obtain ⟨p, q, dx, us, vs, rfl, h1, h2, h3, h4⟩ := q1
      have key : gCons (gName i) u (.ref q :: vs) σ H1 Dn.nx := by
        refine ⟨_, _, rfl, ?_⟩
        show u vs (σ.set i (some (.ref q))) H1 Dn.nx
        have I' : EnvOk c.K B H0 Hf1 H1 (σ.set i (some (.ref q))) (ρ.set i (some (.so C fs))) := (I.grow x1).set rfl ⟨q, dx, us, rfl, h2, h3⟩ fun z => nomatch z
        cases ek : ks xs (ρ.set i (some (.so C fs))) with
        | bad => simp only [ek] at o2; exact o2.elim
        | ex n as => simp only [ek] at o2; exact o2.elim
        | ok ρ' =>
          simp only [ek] at o2
          exact hg B H0 Hf1 H1 _ _ vs xs _ I' h4 ⟨ρ', ek, fun σ' _ _ I2 => (show GS c B H0 Dn (.nx ρ') from o2) _ _ _ I2⟩
      have hlen : (V.ref q :: vs).length = n := by rw [List.length_cons, dpAll_len h4]; exact hl
      cases b with
      | true => exact .inl ⟨p, _, rfl, .inl (.inl (x1.i _ _ h1)), hlen, key⟩
      | false => exact .inr ⟨p, _, rfl, .inl (.inl (x1.i _ _ h1)), hlen, key⟩
    · exact o2.elim
  | _ => exact o1.elim
end Pl
/-! PlM: str(int), ord; sep.join, s.split(), s.startswith; pop of an own list. -/
namespace Pl
open PySem PySem.Spec PyProof.Rows L2
section
variable {c : Ct}
/-! ### str(n), ord(c) -/
def rStrI : List V → Hp → VK → Prop := fun xs H Q => (∃ i : Int, xs = [.int i] ∧ i.natAbs.log2 < 1920 ∧ Q (.str (toString i)) H) ∨ ∃ a : Str, xs = [.str a] ∧ Q (.str a) H
theorem cb_str {X : Cx} : CallR X (.type "str") rStrI := by
  intro pins s σ H xs us Q I r h
  rcases h with h | h
  · exact call_str_int pins s σ H xs us Q I r h
  · exact SkE.call_str_str pins s σ H xs us Q I r h
def strS : List SV → R SV
  | [.d (.int i)] => if okB i = true then .ok (.d (.str (toString i))) else .bad
  | [.d (.str a)] => .ok (.d (.str a))
  | _ => .bad
theorem okB_log {i : Int} (h : okB i = true) : i.natAbs.log2 < 1920 := by
  have h1 := okB_nat h
  by_cases z : i.natAbs = 0
  · rw [z]; decide
  · have := (Nat.log2_lt z).mpr h1
    omega
theorem c1_str : C1ok c rStrI strS := by
  intro Hf H vs rs Q i h o
  unfold strS at o
  split at o
  · split at o
    · rename_i hk
      cases h with
      | cons a b => cases b; cases a; exact .inl ⟨_, rfl, okB_log hk, GE.now o i (.str _)⟩
    · exact o.elim
  · cases h with
    | cons a b => cases b; cases a; exact .inr ⟨_, rfl, GE.now o i (.str _)⟩
  · exact o.elim
def rOrd1 : List V → Hp → VK → Prop := fun xs H Q => ∃ x : Str, xs = [.str x] ∧ x.length = 1 ∧ Q (.int (x.cps.getD 0 0 : Nat)) H
theorem cb_ord {X : Cx} : CallR X (.builtin "ord") rOrd1 := call_ord
def ordS : List SV → R SV
  | [.d (.str x)] => if x.length = 1 then .ok (.d (.int (x.cps.getD 0 0 : Nat))) else .bad
  | _ => .bad
theorem c1_ord : C1ok c rOrd1 ordS := by
  intro Hf H vs rs Q i h o
  unfold ordS at o
  split at o
  · split at o
    · rename_i hk
      cases h with
      | cons a b => cases b; cases a; exact ⟨_, rfl, hk, GE.now o i (.int _)⟩
    · exact o.elim
  · exact o.elim
/-! ### methods of texts -/
def strsD : List D → Option (List Str)
  | [] => some []
  | .str x :: r => (strsD r).map (x :: ·)
  | _ => none
theorem strsD_ok {K : PySem.W.Frag} {Hf : Hp} : ∀ {xs : List D} {vs : List V} {ys : List Str}, DpAll K Hf vs xs → strsD xs = some ys → vs = ys.map V.str
  | [], _, ys, h, e => by cases h; cases e; rfl
  | .str x :: r, _, ys, h, e => by
    cases h with
    | cons a t =>
      unfold strsD at e
      cases er : strsD r with
      | none => rw [er] at e; cases e
      | some zs =>
        rw [er] at e
        cases e
        cases a
        rw [strsD_ok t er]; rfl
  | .none :: _, _, _, _, e => by cases e
  | .bool _ :: _, _, _, _, e => by cases e
  | .int _ :: _, _, _, _, e => by cases e
  | .list _ :: _, _, _, _, e => by cases e
  | .tuple _ :: _, _, _, _, e => by cases e
def txtS : SV → R Str
  | .d (.str a) => .ok a
  | _ => .bad
theorem txtS_ok {K : Kx} {Hf H : Hp} {v : V} {r : SV} {a : Str} (q : RepR K Hf H v r) (e : txtS r = .ok a) : v = .str a := by
  unfold txtS at e
  split at e
  · cases e; cases q; rfl
  · cases e
theorem txtS_ex {r : SV} {n : Nat} {as : List D} (e : txtS r = .ex n as) : False := by
  unfold txtS at e
  split at e <;> cases e
def rJoin1 (K : PySem.W.Frag) : V → List V → Hp → VK → Prop := fun x xs H Q => ∃ a p, ∃ ys : List Str, x = .str a ∧ xs = [.ref p] ∧ (SqL K H p (ys.map V.str) ∨ SqT K H p (ys.map V.str)) ∧
    (ys.map (·.length)).sum + ys.length * a.length ≤ 16777216 ∧ Q (.str (Txt.join a ys)) H
def joinS (a : Str) (b : SV) : R SV := match datL b with
  | .ok xs => (match strsD xs with
    | some ys => if (ys.map (·.length)).sum + ys.length * a.length ≤ 16777216 then .ok (.d (.str (Txt.join a ys))) else .bad
    | none => .bad)
  | _ => .bad
def joinE (f g : En → R SV) : En → R SV := fun ρ => f ρ >>= fun r => txtS r >>= fun a => g ρ >>= joinS a
theorem sem_join {t u : TE} {f g : En → R SV} (h : SemE c false t f) (h' : SemE c false u g) : SemE c true (tM1 (rJoin1 c.K.k) t u) (joinE f g) := by
  intro B H0 Hf H σ ρ Q I o
  refine h B H0 Hf H σ ρ _ I (Out.bind o fun r er o1 => fun v Hf1 H1 x1 q1 _ => ?_)
  cases el : txtS r with
  | bad => rw [el] at o1; exact o1.elim
  | ex n as => exact (txtS_ex el).elim
  | ok a =>
    rw [el, ok_bind] at o1
    obtain rfl := txtS_ok q1 el
    refine ⟨⟨a, rfl⟩, ?_⟩
    refine h' B H0 Hf1 H1 σ ρ _ (I.grow x1) (Out.bind (o1.grow x1 fun _ z => z) fun b eb o2 => fun w Hf2 H2 x2 q2 _ => ?_)
    unfold joinS at o2
    cases eb2 : datL b with
    | bad => rw [eb2] at o2; exact o2.elim
    | ex n as => rw [eb2] at o2; exact o2.elim
    | ok xs =>
      rw [eb2] at o2
      simp only at o2
      obtain ⟨p, vs, rfl, hl, hq⟩ := datL_ok x2.i q2 eb2
      split at o2
      rotate_left
      · exact o2.elim
      rename_i ys ey
      split at o2
      rotate_left
      · exact o2.elim
      rename_i hz
      obtain rfl := strsD_ok hq ey
      exact ⟨a, p, ys, rfl, rfl, .inl hl, hz, GE.now (GE.grow (show GE c true Hf H Q (.d _) from o2) (x1.trans x2)) x2.i (.str _)⟩
def rWords : V → List V → Hp → VK → Prop := fun x xs H Q => ∃ a, x = .str a ∧ xs = [] ∧ a.length + 2 ≤ sizeLine ∧ rNewStrs (Txt.words a) H Q
def wordsE (f : En → R SV) : En → R SV := fun ρ => f ρ >>= fun r => txtS r >>= fun a => if a.length + 2 ≤ sizeLine then .ok (.ol ((Txt.words a).map PyData.str)) else .bad
theorem dpAll_strs {K : PySem.W.Frag} {Hf : Hp} : ∀ ys : List Str, DpAll K Hf (ys.map V.str) (ys.map PyData.str)
  | [] => .nil
  | _ :: ys => .cons (.str _) (dpAll_strs ys)
theorem sem_words {t : TE} {f : En → R SV} (h : SemE c false t f) : SemE c true (tM0 rWords t) (wordsE f) := by
  intro B H0 Hf H σ ρ Q I o
  refine h B H0 Hf H σ ρ _ I (Out.bind o fun r er o1 => fun v Hf1 H1 x1 q1 _ => ?_)
  cases el : txtS r with
  | bad => rw [el] at o1; exact o1.elim
  | ex n as => exact (txtS_ex el).elim
  | ok a =>
    rw [el, ok_bind] at o1
    obtain rfl := txtS_ok q1 el
    split at o1
    rotate_left
    · exact o1.elim
    rename_i hz
    exact ⟨⟨a, rfl⟩, a, rfl, rfl, hz, fun p hp => GE.newL (GE.grow (show GE c true Hf H Q _ from o1) x1) x1.i hp (dpAll_strs _)⟩
def rStw : V → List V → Hp → VK → Prop := fun x xs H Q => ∃ a b, x = .str a ∧ xs = [.str b] ∧ Q (.bl (Txt.startswith a b)) H
def stwE (f g : En → R SV) : En → R SV := fun ρ => f ρ >>= fun r => txtS r >>= fun a => g ρ >>= fun r2 => txtS r2 >>= fun b => .ok (.d (.bool (Txt.startswith a b)))
theorem sem_stw {t u : TE} {f g : En → R SV} (h : SemE c false t f) (h' : SemE c false u g) : SemE c true (tM1 rStw t u) (stwE f g) := by
  intro B H0 Hf H σ ρ Q I o
  refine h B H0 Hf H σ ρ _ I (Out.bind o fun r er o1 => fun v Hf1 H1 x1 q1 _ => ?_)
  cases el : txtS r with
  | bad => rw [el] at o1; exact o1.elim
  | ex n as => exact (txtS_ex el).elim
  | ok a =>
    rw [el, ok_bind] at o1
    obtain rfl := txtS_ok q1 el
    refine ⟨⟨a, rfl⟩, ?_⟩
    refine h' B H0 Hf1 H1 σ ρ _ (I.grow x1) (Out.bind (o1.grow x1 fun _ z => z) fun b eb o2 => fun w Hf2 H2 x2 q2 _ => ?_)
    cases el2 : txtS b with
    | bad => rw [el2] at o2; exact o2.elim
    | ex n as => exact (txtS_ex el2).elim
    | ok b2 =>
      rw [el2, ok_bind] at o2
      obtain rfl := txtS_ok q2 el2
      exact ⟨a, b2, rfl, rfl, GE.now (GE.grow (show GE c true Hf H Q (.d _) from o2) (x1.trans x2)) x2.i (.bl _)⟩
/-! ### pop -/
theorem dpAll_drop1 {K : PySem.W.Frag} {H : Hp} {vs : List V} {ds : List D} (h : DpAll K H vs ds) : DpAll K H vs.dropLast ds.dropLast := by
  rw [List.dropLast_eq_take, List.dropLast_eq_take, dpAll_len h]
  exact dpAll_take _ h
def popX (i : Nat) : En → R (D × En) := fun ρ => match ρ[i]? with
  | some (some (.ol xs)) => (match xs[xs.length - 1]? with
    | some d => .ok (d, ρ.set i (some (.ol xs.dropLast)))
    | none => .bad)
  | _ => .bad
theorem sem_pop {i : Nat} : SemX c (tBM0 c.K "list" rPop (tVar i)) (popX i) := by
  intro B H0 Hf H σ ρ Q I d ρ' e q
  unfold popX at e
  split at e
  rotate_left
  · cases e
  rename_i xs ei
  split at e
  rotate_left
  · cases e
  rename_i y ey
  cases e
  obtain ⟨v, h1, p, vs, rfl, h2, h3, h4⟩ := I.sl i _ ei
  obtain ⟨w, ew, hw⟩ := dpAll_get h4 ey
  rw [← dpAll_len h4] at ew
  exact ⟨.ref p, h1, .inl ⟨rfl, vs, .inl (.inl h2)⟩, p, vs, w, rfl, rfl, h2, ew, q w Hf _ (I.rewrite ei h1 h2 h3 (dpAll_drop1 h4)) hw⟩
/-- x = e, e an expression that writes -/
def asgX (j : Nat) (f : En → R (D × En)) : En → R Fl := fun ρ => match f ρ with
  | .ok p => .ok (.nx (p.2.set j (some (.d p.1))))
  | _ => .bad
theorem sem_asgX {j : Nat} {t : TE} {f : En → R (D × En)} (h : SemX c t f) : SemS c (tAsg t (gName j)) (asgX j f) := by
  intro B H0 Hf H σ ρ Dn I o
  unfold asgX at o
  cases ef : f ρ with
  | bad => rw [ef] at o; exact o.elim
  | ex n as => rw [ef] at o; exact o.elim
  | ok p =>
    rw [ef] at o
    refine h B H0 Hf H σ ρ _ I p.1 p.2 ef fun v Hf1 H1 I1 q1 => ?_
    exact (show GS c B H0 Dn (.nx (p.2.set j (some (.d p.1)))) from o) Hf1 H1 _ (I1.set_fresh (r := .d p.1) rfl (.refl I1.i) q1 fun z => by cases z)
/-- e alone, e an expression that writes -/
def dropX (f : En → R (D × En)) : En → R Fl := fun ρ => match f ρ with
  | .ok p => .ok (.nx p.2)
  | _ => .bad
theorem sem_dropX {t : TE} {f : En → R (D × En)} (h : SemX c t f) : SemS c (tDrop t) (dropX f) := by
  intro B H0 Hf H σ ρ Dn I o
  unfold dropX at o
  cases ef : f ρ with
  | bad => rw [ef] at o; exact o.elim
  | ex n as => rw [ef] at o; exact o.elim
  | ok p =>
    rw [ef] at o
    exact h B H0 Hf H σ ρ _ I p.1 p.2 ef fun v Hf1 H1 I1 q1 => (show GS c B H0 Dn (.nx p.2) from o) Hf1 H1 _ I1
/-- x.append(e), e an expression that writes -/
def appX (i : Nat) (f : En → R (D × En)) : En → R Fl := fun ρ => match ρ[i]?, f ρ with
  | some (some (.ol _)), .ok p => (match p.2[i]? with
    | some (some (.ol xs)) => if xs.length < sizeLine then .ok (.nx (p.2.set i (some (.ol (xs ++ [p.1]))))) else .bad
    | _ => .bad)
  | _, _ => .bad
theorem sem_appX {i : Nat} {t : TE} {f : En → R (D × En)} (h : SemX c t f) : SemS c (tDrop (tBM c.K "list" rAppend (tVar i) (tCons t tNil))) (appX i f) := by
  intro B H0 Hf H σ ρ Dn I o
  unfold appX at o
  split at o
  rotate_left
  · exact o.elim
  rename_i xs0 p e ef
  obtain ⟨v, h1, a, vs, rfl, h2, h3, h4⟩ := I.sl i _ e
  refine ⟨.ref a, h1, .inl ⟨rfl, vs, .inl (.inl h2)⟩, ?_⟩
  refine h B H0 Hf H σ ρ _ I p.1 p.2 ef fun u Hf1 H1 I1 q1 => ?_
  split at o
  rotate_left
  · exact o.elim
  rename_i xs e1
  split at o
  rotate_left
  · exact o.elim
  rename_i hl
  obtain ⟨v', k1, a', vs', rfl, k2, k3, k4⟩ := I1.sl i _ e1
  rw [h1] at k1
  cases k1
  refine ⟨a, vs', u, rfl, rfl, k2, by rw [dpAll_len k4]; exact hl, ?_⟩
  exact (show GS c B H0 Dn (.nx (p.2.set i (some (.ol (xs ++ [p.1]))))) from o) _ _ _ (I1.rewrite e1 h1 k2 k3 (dpAll_append k4 (.cons q1 .nil)))
/-- x.pop(k) -/
def popAtX (i : Nat) (fk : En → R SV) : En → R (D × En) := fun ρ => match ρ[i]?, fk ρ with
  | some (some (.ol xs)), .ok (.d (.int k)) => if 0 ≤ k ∧ k < 1000000 then (match xs[k.toNat]? with
    | some d => .ok (d, ρ.set i (some (.ol (xs.eraseIdx k.toNat))))
    | none => .bad) else .bad
  | _, _ => .bad
theorem dpAll_erase {K : PySem.W.Frag} {H : Hp} : ∀ (k : Nat) {vs : List V} {ds : List D}, DpAll K H vs ds → DpAll K H (vs.eraseIdx k) (ds.eraseIdx k)
  | _, _, _, .nil => .nil
  | 0, _, _, .cons _ t => t
  | k + 1, _, _, .cons a t => .cons a (dpAll_erase k t)
theorem sem_popAt {i : Nat} {tk : TE} {fk : En → R SV} (hk : SemE c false tk fk) : SemX c (tBM c.K "list" rPopAt (tVar i) (tCons tk tNil)) (popAtX i fk) := by
  intro B H0 Hf H σ ρ Q I d ρ' e q
  unfold popAtX at e
  split at e
  rotate_left
  · cases e
  rename_i xs k ei ek
  split at e
  rotate_left
  · cases e
  rename_i hz
  split at e
  rotate_left
  · cases e
  rename_i y ey
  cases e
  obtain ⟨v, h1, p, vs, rfl, h2, h3, h4⟩ := I.sl i _ ei
  refine ⟨.ref p, h1, .inl ⟨rfl, vs, .inl (.inl h2)⟩, ?_⟩
  refine hk B H0 Hf H σ ρ _ I ?_
  rw [ek]
  intro kv Hf1 H1 x1 q1 _
  cases q1
  have I1 := I.grow x1
  have h2' := x1.h _ _ h2
  have h3' := x1.still h2 h3
  have h4' := dpAll_mono x1.f h4
  obtain ⟨w, ew, hw⟩ := dpAll_get h4' ey
  have hk' : k.toNat < vs.length := (List.getElem?_eq_some_iff.mp ew).1
  refine ⟨p, vs, k, k.toNat, w, rfl, rfl, h2', by omega, by omega, ?_, ew, q w Hf1 _ (I1.rewrite ei h1 h2' h3' (dpAll_erase _ h4')) hw⟩
  have c1 : ¬ k < 0 := by omega
  have c2 : (decide (0 ≤ k) && decide (k < (vs.length : Int))) = true := by
    rw [Bool.and_eq_true, decide_eq_true_iff, decide_eq_true_iff]; omega
  unfold seqIndex?
  simp only [c1, if_false, c2, if_true]
/-! ### f-strings -/
def fmtE (f : En → R SV) : En → R SV := fun ρ => f ρ >>= fun r => match r with
  | .d (.str y) => if y.length ≤ sizeLine then .ok (.d (.str y)) else .bad
  | .d (.int i) => if okB i = true then .ok (.d (.str (toString i))) else .bad
  | _ => .bad
theorem sem_fmt {t : TE} {f : En → R SV} (h : SemE c false t f) : SemE c false (tFmt t) (fmtE f) := by
  intro B H0 Hf H σ ρ Q I o
  refine h B H0 Hf H σ ρ _ I (Out.bind o fun r er o1 => fun v Hf1 H1 x1 q1 _ => ?_)
  split at o1
  · split at o1
    · rename_i hz
      cases q1
      exact .inl ⟨_, rfl, hz, GE.now (GE.grow (show GE c false Hf H Q (.d _) from o1) x1) x1.i (.str _)⟩
    · exact o1.elim
  · split at o1
    · rename_i hz
      cases q1
      exact .inr ⟨_, rfl, okB_log hz, GE.now (GE.grow (show GE c false Hf H Q (.d _) from o1) x1) x1.i (.str _)⟩
    · exact o1.elim
  · exact o1.elim
def SemJ (c : Ct) (ts : List TE) (g : Str → En → R Str) : Prop := ∀ B H0 Hf H σ ρ acc (Q : Str → Hp → Prop), EnvOk c.K B H0 Hf H σ ρ → Out c Hf H (g acc ρ) (fun out => ∀ Hf' H', Ext Hf H Hf' H' → Q out H') → tJs ts acc σ H Q
def jN : Str → En → R Str := fun acc _ => .ok acc
def jC (f : En → R SV) (g : Str → En → R Str) : Str → En → R Str := fun acc ρ => f ρ >>= fun r => txtS r >>= fun y => if (acc ++ y).length ≤ sizeLine then g (acc ++ y) ρ else .bad
theorem sem_jN : SemJ c [] jN := by
  intro B H0 Hf H σ ρ acc Q I o
  exact (show ∀ Hf' H', Ext Hf H Hf' H' → Q acc H' from o) Hf H (.refl I.i)
theorem sem_jC {t : TE} {ts : List TE} {f : En → R SV} {g : Str → En → R Str} (h : SemE c false t f) (h' : SemJ c ts g) : SemJ c (t :: ts) (jC f g) := by
  intro B H0 Hf H σ ρ acc Q I o
  refine h B H0 Hf H σ ρ _ I (Out.bind o fun r er o1 => fun v Hf1 H1 x1 q1 _ => ?_)
  cases el : txtS r with
  | bad => rw [el] at o1; exact o1.elim
  | ex n as => exact (txtS_ex el).elim
  | ok y =>
    rw [el, ok_bind] at o1
    obtain rfl := txtS_ok q1 el
    split at o1
    rotate_left
    · exact o1.elim
    rename_i hz
    exact ⟨y, rfl, hz, h' B H0 Hf1 H1 σ ρ _ Q (I.grow x1) (o1.grow x1 fun _ z Hf2 H2 x2 => z Hf2 H2 (x1.trans x2))⟩
def joinedE (g : Str → En → R Str) : En → R SV := fun ρ => g Str.empty ρ >>= fun out => .ok (.d (.str out))
theorem sem_joined {ts : List TE} {g : Str → En → R Str} (h : SemJ c ts g) : SemE c true (fun σ H Q => tJs ts Str.empty σ H fun out H1 => Q (.str out) H1) (joinedE g) := by
  intro B H0 Hf H σ ρ Q I o
  exact h B H0 Hf H σ ρ Str.empty _ I (Out.bind o fun out eo o1 => fun Hf1 H1 x1 => GE.now (GE.grow (show GE c true Hf H Q (.d _) from o1) x1) x1.i (.str _))
end
/-! ### the rules by their names here -/
section
variable {X : Cx} {o e : Expr} {to te : TE} {apos pos : Pos}
theorem pe_join1 (ho : PE X o to) (he : PE X e te) (hs : starEach [e] X.env = [(false, eval e X.env)] := by rfl) (hbase : attributeBase o "join" X.env (eval o X.env) = eval o X.env := by rfl) (hline : (apos.endLine == pos.line) = true := by rfl) :
    PE X (.Call (.Attribute o "join" apos) [e] [] pos) (tM1 (rJoin1 X.K) to te) := pe_join ho he hs hbase hline
theorem pe_words1 (ho : PE X o to) (hbase : attributeBase o "split" X.env (eval o X.env) = eval o X.env := by rfl) (hline : (apos.endLine == pos.line) = true := by rfl) :
    PE X (.Call (.Attribute o "split" apos) [] [] pos) (tM0 rWords to) := pe_words ho hbase hline
theorem pe_stw (ho : PE X o to) (he : PE X e te) (hs : starEach [e] X.env = [(false, eval e X.env)] := by rfl) (hbase : attributeBase o "startswith" X.env (eval o X.env) = eval o X.env := by rfl) (hline : (apos.endLine == pos.line) = true := by rfl) :
    PE X (.Call (.Attribute o "startswith" apos) [e] [] pos) (tM1 rStw to te) := pe_m1 F.slot_str_startswith F.type_str_startswith mt_startswith ho he hs hbase hline
end
end Pl
/-! PlN: a list of rows whose last parts are lists of this frame: side owned things. -/
namespace Pl
open PySem PySem.Spec PyProof.Rows L2
section
variable {K : Kx} {Hb H0 Hs Hf H : Hp} {σ : L2.St} {ρ : En} {i : Nat}
theorem upd_self {H : Hp} {a : Addr} {o : HO} (h : H a = some o) : upd H a o = H := by
  funext b
  by_cases z : b = a
  · subst z; rw [upd_same, h]
  · rw [upd_ne z]
/-- any thing is laid beside the frame -/
theorem EnvOk.layO {Dd : Addr} {o : HO} (I : EnvOk K ⟨Hb, fun _ => .non⟩ H0 Hf H σ ρ) (h : H Dd = none) : EnvOk K ⟨Hb, fun _ => .non⟩ (upd H0 Dd o) Hf (upd H Dd o) σ ρ := by
  have h0 : H0 Dd = none := I.ext.h.free h
  have hf : Hf Dd = none := I.i.free h
  have x : Ext Hf H Hf (upd H Dd o) := .fresh I.i h
  have I1 := I.grow x
  have own : ∀ {i : Nat} {r : SV} {p : Addr}, ρ[i]? = some (some r) → r.own = true → σ[i]? = some (some (.ref p)) → p ≠ Dd := fun e o w z => I.own_at e o w (by rw [z]; exact h)
  refine ⟨⟨I1.ext.f, fun b o' eb => ?_, I1.i, fun p hp => ?_⟩, I1.len, I1.sl, fun j r p e o w => ?_, I1.sep, fun j xs e => ?_⟩
  · by_cases z : b = Dd
    · subst z; rw [upd_same] at eb ⊢; exact eb
    · rw [upd_ne z] at eb ⊢
      exact I.ext.h b o' eb
  · rcases I1.ext.n p hp with z | z
    · exact .inl z
    · by_cases y : p = Dd
      · subst y; exact absurd hf hp
      · exact .inr (by rw [upd_ne y]; exact z)
  · rw [upd_ne (own e o w)]; exact I1.new j r p e o w
  · obtain ⟨p, o, z, _⟩ := I1.pin j xs e
    cases z
/-- a list beside the frame is written anew -/
theorem EnvOk.accS {b : Addr} {l l' : List V} (I : EnvOk K ⟨Hb, fun _ => .non⟩ Hs Hf H σ ρ) (h : Hs b = some (.lst l)) (hb : Hb b = none) : EnvOk K ⟨Hb, fun _ => .non⟩ (upd Hs b (.lst l')) Hf (upd H b (.lst l')) σ ρ := by
  rw [← upd_self h] at I
  exact I.acc (l' := l') hb
/-- a list of the frame is laid beside it -/
theorem EnvOk.give {p : Addr} {xs : List D} {vs : List V} (I : EnvOk K ⟨Hb, fun _ => .non⟩ H0 Hf H σ ρ) (e : ρ[i]? = some (some (.ol xs))) (es : σ[i]? = some (some (.ref p))) (h : H p = some (.lst vs)) (hf : Hf p = none) : EnvOk K ⟨Hb, fun _ => .non⟩ (upd H0 p (.lst vs)) Hf H σ (ρ.set i none) := by
  have get : ∀ {j : Nat} {r : SV}, (ρ.set i none)[j]? = some (some r) → j ≠ i ∧ ρ[j]? = some (some r) := fun {j r} q => by
    by_cases z : i = j
    · subst z
      have hi : i < ρ.length := (List.getElem?_eq_some_iff.mp e).1
      rw [List.getElem?_set_self hi] at q
      cases q
    · rw [List.getElem?_set_ne z] at q
      exact ⟨fun y => z y.symm, q⟩
  refine ⟨⟨I.ext.f, fun b o eb => ?_, I.i, fun b hb => ?_⟩, by rw [List.length_set]; exact I.len, fun j r q => I.sl j r (get q).2, fun j r q ej oj sj => ?_, fun j k rj rk q ej oj ek ok sj sk => I.sep j k rj rk q (get ej).2 oj (get ek).2 ok sj sk, fun j xs q => ?_⟩
  · by_cases z : b = p
    · subst z; rw [upd_same] at eb; cases eb; exact h
    · rw [upd_ne z] at eb; exact I.ext.h b o eb
  · by_cases z : b = p
    · subst z; exact absurd hf hb
    · rcases I.ext.n b hb with y | y
      · exact .inl y
      · exact .inr (by rw [upd_ne z]; exact y)
  · have hq : q ≠ p := fun z => (get ej).1 (I.sep j i _ _ q (get ej).2 oj e rfl sj (z ▸ es))
    rw [upd_ne hq]; exact I.new j _ q (get ej).2 oj sj
  · obtain ⟨p, o, z, _⟩ := I.pin j xs (get q).2
    cases z
end
/-! ### rows beside the frame -/
structure RowQ where
  t : Addr
  b : Addr
  us : List D
  ys : List D
def RowAt (K : Kx) (Hs Hf : Hp) (r : RowQ) : Prop := ∃ vs ws, Hs r.t = some (.tup (vs ++ [.ref r.b])) ∧ DpAll K Hf vs r.us ∧ Hs r.b = some (.lst ws) ∧ DpAll K Hf ws r.ys
def rAd (rs : List RowQ) : List Addr := rs.flatMap fun r => [r.t, r.b]
structure Side (K : Kx) (Hb H0 Hs Hf H : Hp) (σ : L2.St) (ρ : En) (i : Nat) (p : Addr) (rs : List RowQ) : Prop where
  env : EnvOk K ⟨Hb, fun _ => .non⟩ Hs Hf H σ ρ
  dead : ρ[i]? = some none
  at_ : σ[i]? = some (some (.ref p))
  lst : Hs p = some (.lst (rs.map fun r => .ref r.t))
  row : ∀ r ∈ rs, RowAt K Hs Hf r
  nd : (p :: rAd rs).Nodup
  base : Same H0 Hs
  own : ∀ a ∈ p :: rAd rs, H0 a = none ∧ Hb a = none
abbrev Rw := List (List D × List D)
def rwOf (rs : List RowQ) : Rw := rs.map fun r => (r.us, r.ys)
section
variable {K : Kx} {Hb H0 Hs Hf H Hf' H' : Hp} {σ : L2.St} {ρ : En} {i : Nat} {p : Addr} {rs : List RowQ}
theorem Side.grow (S : Side K Hb H0 Hs Hf H σ ρ i p rs) (x : Ext Hf H Hf' H') : Side K Hb H0 Hs Hf' H' σ ρ i p rs :=
  ⟨S.env.grow x, S.dead, S.at_, S.lst, fun r hr => let ⟨vs, ws, a, b, c, d⟩ := S.row r hr; ⟨vs, ws, a, dpAll_mono x.f b, c, dpAll_mono x.f d⟩, S.nd, S.base, S.own⟩
theorem Side.here (S : Side K Hb H0 Hs Hf H σ ρ i p rs) {a : Addr} (h : a ∈ p :: rAd rs) : ∃ o, Hs a = some o := by
  rcases List.mem_cons.mp h with rfl | h
  · exact ⟨_, S.lst⟩
  · obtain ⟨r, hr, q⟩ := List.mem_flatMap.mp h
    obtain ⟨vs, ws, a1, _, c1, _⟩ := S.row r hr
    rcases List.mem_cons.mp q with rfl | q
    · exact ⟨_, a1⟩
    · rw [List.mem_singleton.mp q]; exact ⟨_, c1⟩
theorem Side.free (S : Side K Hb H0 Hs Hf H σ ρ i p rs) {a : Addr} (h : a ∈ p :: rAd rs) : Hf a = none := by
  obtain ⟨o, ho⟩ := S.here h
  cases q : Hf a with
  | none => rfl
  | some o' =>
    rcases S.env.ext.n a (by rw [q]; exact fun z => nomatch z) with z | z
    · exact absurd (S.own a h).2 z
    · rw [ho] at z; cases z
theorem rAd_app (a b : List RowQ) : rAd (a ++ b) = rAd a ++ rAd b := by unfold rAd; rw [List.flatMap_append]
theorem rAd_mem {r : RowQ} (h : r ∈ rs) : r.t ∈ rAd rs ∧ r.b ∈ rAd rs := ⟨List.mem_flatMap.mpr ⟨r, h, by simp⟩, List.mem_flatMap.mpr ⟨r, h, by simp⟩⟩
/-- the last row's list grows -/
theorem Side.push {r : RowQ} {ws : List V} {v : V} {d : D} (S : Side K Hb H0 Hs Hf H σ ρ i p (rs ++ [r])) (hw : Hs r.b = some (.lst ws)) (hws : DpAll K Hf ws r.ys) (hv : Dp K Hf v d) : Side K Hb H0 (upd Hs r.b (.lst (ws ++ [v]))) Hf (upd H r.b (.lst (ws ++ [v]))) σ ρ i p (rs ++ [{ r with ys := r.ys ++ [d] }]) := by
  have mb : r.b ∈ p :: rAd (rs ++ [r]) := List.mem_cons_of_mem _ (rAd_mem (by simp)).2
  have nd := S.nd
  have ad : p :: rAd (rs ++ [{ r with ys := r.ys ++ [d] }]) = p :: rAd (rs ++ [r]) := by rw [rAd_app, rAd_app]; rfl
  have ad2 : p :: rAd (rs ++ [r]) = (p :: rAd rs) ++ [r.t, r.b] := by rw [rAd_app]; rfl
  have ne : ∀ a ∈ p :: rAd rs, a ≠ r.b := fun a ha z => by
    rw [ad2] at nd
    exact (List.nodup_append.mp nd).2.2 a ha r.b (by simp) z
  have net : r.t ≠ r.b := fun z => by
    rw [ad2] at nd
    have := (List.nodup_append.mp nd).2.1
    simp [z] at this
  refine ⟨S.env.accS hw (S.own _ mb).2, S.dead, S.at_, ?_, fun q hq => ?_, by rw [ad]; exact nd, fun b o eb => ?_, by rw [ad]; exact S.own⟩
  · rw [upd_ne (ne p List.mem_cons_self), S.lst, List.map_append, List.map_append]; rfl
  · rcases List.mem_append.mp hq with hq | hq
    · obtain ⟨vs, ws', a1, b1, c1, d1⟩ := S.row q (List.mem_append_left _ hq)
      have m := rAd_mem hq
      exact ⟨vs, ws', by rw [upd_ne (ne _ (List.mem_cons_of_mem _ m.1))]; exact a1, b1, by rw [upd_ne (ne _ (List.mem_cons_of_mem _ m.2))]; exact c1, d1⟩
    · rw [List.mem_singleton.mp hq]
      obtain ⟨vs, ws', a1, b1, c1, d1⟩ := S.row r (by simp)
      refine ⟨vs, ws ++ [v], by show upd Hs r.b _ r.t = _; rw [upd_ne net]; exact a1, b1, upd_same, ?_⟩
      exact dpAll_append hws (.cons hv .nil)
  · rw [upd_ne (ne_of_none eb (S.own _ mb).1)]; exact S.base b o eb
/-- a new row is laid: its list at q, its tuple at T -/
theorem Side.newrow {q T : Addr} {vs : List V} {us : List D} {ws : List V} {ys : List D} (S : Side K Hb H0 Hs Hf H σ ρ i p rs) (hq : H q = none) (hT : (upd H q (.lst ws)) T = none) (hv : DpAll K Hf vs us) (hw : DpAll K Hf ws ys) :
    ∃ Hs', Side K Hb H0 Hs' Hf (upd (upd (upd H q (.lst ws)) T (.tup (vs ++ [.ref q]))) p (.lst (rs.map (fun r => .ref r.t) ++ [.ref T]))) σ ρ i p (rs ++ [⟨T, q, us, ys⟩]) := by
  have hTq : T ≠ q := fun z => by rw [z, upd_same] at hT; cases hT
  have hT' : H T = none := by rw [upd_ne hTq] at hT; exact hT
  have used : ∀ a ∈ p :: rAd rs, H a ≠ none := fun a ha z => by
    obtain ⟨o, ho⟩ := S.here ha
    rw [S.env.ext.h a o ho] at z; cases z
  have nq : ∀ a ∈ p :: rAd rs, a ≠ q := fun a ha z => used a ha (z ▸ hq)
  have nT : ∀ a ∈ p :: rAd rs, a ≠ T := fun a ha z => used a ha (z ▸ hT')
  have E1 := S.env.layO (o := .lst ws) hq
  have E2 := E1.layO (o := .tup (vs ++ [.ref q])) hT
  have lp : (upd (upd Hs q (.lst ws)) T (.tup (vs ++ [.ref q]))) p = some (.lst (rs.map fun r => .ref r.t)) := by
    rw [upd_ne (nT p List.mem_cons_self), upd_ne (nq p List.mem_cons_self)]; exact S.lst
  have op := S.own p List.mem_cons_self
  have E3 := E2.accS (l' := rs.map (fun r => .ref r.t) ++ [.ref T]) lp op.2
  have nd := S.nd
  have hHs : ∀ {a : Addr}, H a = none → Hs a = none := fun {a} z => S.env.ext.h.free z
  have hH0 : ∀ {a : Addr}, H a = none → H0 a = none := fun {a} z => S.base.free (hHs z)
  have hHb : ∀ {a : Addr}, H a = none → Hb a = none := fun {a} z => S.env.ext.f.free (S.env.i.free z)
  have ad : p :: rAd (rs ++ [⟨T, q, us, ys⟩]) = (p :: rAd rs) ++ [T, q] := by rw [rAd_app]; rfl
  have pq : q ≠ p := fun z => nq p List.mem_cons_self z.symm
  have pT : T ≠ p := fun z => nT p List.mem_cons_self z.symm
  have ndp : ∀ a ∈ rAd rs, a ≠ p := fun a ha z => (List.nodup_cons.mp nd).1 (z ▸ ha)
  refine ⟨_, E3, S.dead, S.at_, ?_, fun r hr => ?_, ?_, fun b o eb => ?_, fun a ha => ?_⟩
  · rw [upd_same, List.map_append]; rfl
  · rcases List.mem_append.mp hr with hr | hr
    · obtain ⟨vs', ws', a1, b1, c1, d1⟩ := S.row r hr
      have m := rAd_mem hr
      refine ⟨vs', ws', ?_, b1, ?_, d1⟩
      · rw [upd_ne (ndp _ m.1), upd_ne (nT _ (List.mem_cons_of_mem _ m.1)), upd_ne (nq _ (List.mem_cons_of_mem _ m.1))]; exact a1
      · rw [upd_ne (ndp _ m.2), upd_ne (nT _ (List.mem_cons_of_mem _ m.2)), upd_ne (nq _ (List.mem_cons_of_mem _ m.2))]; exact c1
    · rw [List.mem_singleton.mp hr]
      refine ⟨vs, ws, ?_, hv, ?_, hw⟩
      · show upd _ p _ T = _
        rw [upd_ne pT, upd_same]
      · show upd _ p _ q = _
        rw [upd_ne pq, upd_ne hTq.symm, upd_same]
  · rw [ad]
    refine List.nodup_append.mpr ⟨nd, by simp [hTq], fun a ha b hb => ?_⟩
    rcases List.mem_cons.mp hb with rfl | hb
    · exact nT a ha
    · rw [List.mem_singleton.mp hb]; exact nq a ha
  · rw [upd_ne (ne_of_none eb op.1), upd_ne (ne_of_none eb (hH0 hT')), upd_ne (ne_of_none eb (hH0 hq))]; exact S.base b o eb
  · rw [ad] at ha
    rcases List.mem_append.mp ha with ha | ha
    · exact S.own a ha
    · rcases List.mem_cons.mp ha with rfl | ha
      · exact ⟨hH0 hT', hHb hT'⟩
      · rw [List.mem_singleton.mp ha]; exact ⟨hH0 hq, hHb hq⟩
/-- an empty list of the frame is laid beside it -/
theorem Side.enter (I : EnvOk K ⟨Hb, fun _ => .non⟩ H0 Hf H σ ρ) (e : ρ[i]? = some (some (.ol []))) : ∃ Hs p, Side K Hb H0 Hs Hf H σ (ρ.set i none) i p [] := by
  obtain ⟨v, es, p, vs, rfl, h1, h2, h3⟩ := I.sl i _ e
  cases h3
  have hi : i < ρ.length := (List.getElem?_eq_some_iff.mp e).1
  have h0 := I.new i _ p e rfl es
  refine ⟨_, p, I.give e es h1 h2, by rw [List.getElem?_set_self hi], es, upd_same, (fun _ h => nomatch h), by simp [rAd], fun b o eb => ?_, fun a ha => ?_⟩
  · rw [upd_ne (ne_of_none eb h0)]; exact eb
  · have : a = p := by simpa [rAd] using ha
    subst this
    exact ⟨h0, I.ext.f.free h2⟩
def rowD (r : List D × List D) : D := .tuple (r.1 ++ [.list r.2])
/-- the frozen heap with what lies beside -/
def withS (Hf H : Hp) (as : List Addr) : Hp := fun a => if a ∈ as then H a else Hf a
theorem rows_dp {Hx : Hp} : ∀ rs : List RowQ, (∀ r ∈ rs, Dp K Hx (.ref r.t) (rowD (r.us, r.ys))) → DpAll K Hx (rs.map fun r => .ref r.t) ((rwOf rs).map rowD)
  | [], _ => .nil
  | r :: rs, h => .cons (h r List.mem_cons_self) (rows_dp rs fun q hq => h q (List.mem_cons_of_mem _ hq))
theorem Side.leave (S : Side K Hb H0 Hs Hf H σ ρ i p rs) : ∃ Hf', EnvOk K ⟨Hb, fun _ => .non⟩ H0 Hf' H σ (ρ.set i (some (.ol ((rwOf rs).map rowD)))) := by
  have E := S.env
  have nd := S.nd
  have pn : p ∉ rAd rs := (List.nodup_cons.mp nd).1
  have hs : Same Hf (withS Hf H (rAd rs)) := fun b o eb => by
    unfold withS
    by_cases z : b ∈ rAd rs
    · rw [S.free (List.mem_cons_of_mem _ z)] at eb; cases eb
    · rw [if_neg z]; exact eb
  have hs2 : Same (withS Hf H (rAd rs)) H := fun b o eb => by
    unfold withS at eb
    by_cases z : b ∈ rAd rs
    · rw [if_pos z] at eb; exact eb
    · rw [if_neg z] at eb; exact E.i b o eb
  have hi : i < ρ.length := (List.getElem?_eq_some_iff.mp S.dead).1
  have x : Ext Hb H0 (withS Hf H (rAd rs)) H := ⟨E.ext.f.trans hs, S.base.trans E.ext.h, hs2, fun b hb => by
    unfold withS at hb
    by_cases z : b ∈ rAd rs
    · exact .inr (S.own b (List.mem_cons_of_mem _ z)).1
    · rw [if_neg z] at hb
      rcases E.ext.n b hb with y | y
      · exact .inl y
      · exact .inr (S.base.free y)⟩
  have dead : ∀ {j : Nat} {r : SV} {q : Addr}, ρ[j]? = some (some r) → r.own = true → σ[j]? = some (some (.ref q)) → Hs q = none := fun e o w => E.new _ _ _ e o w
  have inH : ∀ {a : Addr}, a ∈ rAd rs → withS Hf H (rAd rs) a = H a := fun {a} h => by unfold withS; rw [if_pos h]
  have rowsOk : ∀ r ∈ rs, Dp K (withS Hf H (rAd rs)) (.ref r.t) (rowD (r.us, r.ys)) := fun r hr => by
    obtain ⟨vs, ws, a1, b1, c1, d1⟩ := S.row r hr
    have m := rAd_mem hr
    have c2 : withS Hf H (rAd rs) r.b = some (.lst ws) := by rw [inH m.2]; exact E.ext.h _ _ c1
    have a2 : withS Hf H (rAd rs) r.t = some (.tup (vs ++ [.ref r.b])) := by rw [inH m.1]; exact E.ext.h _ _ a1
    exact .tup (.inl (.inl a2)) (dpAll_append (dpAll_mono hs b1) (.cons (.lst (.inl (.inl c2)) (dpAll_mono hs d1)) .nil))
  refine ⟨withS Hf H (rAd rs), x, by rw [List.length_set]; exact E.len, fun j r e => ?_, fun j r q e o w => ?_, fun j k rj rk q ej oj ek ok w w' => ?_, fun j xs e => ?_⟩
  · rcases set_get e with ⟨rfl, e, _⟩ | ⟨hj, e⟩
    · cases e
      refine ⟨.ref p, S.at_, p, rs.map fun r => .ref r.t, rfl, E.ext.h _ _ S.lst, ?_, ?_⟩
      · unfold withS; rw [if_neg pn]; exact S.free List.mem_cons_self
      · exact rows_dp rs rowsOk
    · obtain ⟨v, h1, h2⟩ := E.sl j r e
      refine ⟨v, h1, ?_⟩
      have out : ∀ {q : Addr}, Hs q = none → Hf q = none → withS Hf H (rAd rs) q = none := fun {q} hq hf => by
        unfold withS
        rw [if_neg fun m => ?_]
        · exact hf
        · obtain ⟨o, ho⟩ := S.here (List.mem_cons_of_mem _ m)
          rw [hq] at ho; cases ho
      cases r with
      | d y => exact dp_mono hs h2
      | ol ys =>
        obtain ⟨q, us, rfl, u1, u2, u3⟩ := h2
        exact ⟨q, us, rfl, u1, out (dead e rfl h1) u2, dpAll_mono hs u3⟩
      | od ys =>
        obtain ⟨q, us, rfl, u1, u2, u3⟩ := h2
        exact ⟨q, us, rfl, u1, out (dead e rfl h1) u2, Paired.mapP u3 fun _ _ z => ⟨z.1, dp_mono hs z.2⟩⟩
      | pin ys =>
        obtain ⟨p, o, z, _⟩ := E.pin j ys e
        cases z
      | exn n as =>
        refine ⟨h2.1, h2.2.1, ?_⟩
        have h := h2.2.2
        unfold ExFs at h ⊢
        split at h
        · exact h
        · obtain ⟨vs, z1, z2, z3⟩ := h
          exact ⟨vs, z1, z2, dpAll_mono hs z3⟩
      | pd ys =>
        obtain ⟨q, us, o, rfl, u1, u2⟩ := h2
        exact ⟨q, us, o, rfl, hs _ _ u1, Paired.mapP u2 fun _ _ z => ⟨z.1, dp_mono hs z.2⟩⟩
      | kd ys =>
        obtain ⟨q, ep, us, rfl, u1, u2, u3⟩ := h2
        exact ⟨q, ep, us, rfl, u1, out (dead e rfl h1) u2, kdr_mono hs u3⟩
      | sk ys =>
        obtain ⟨q, ep, us, rfl, u1, u2⟩ := h2
        exact ⟨q, ep, us, rfl, hs _ _ u1, kdr_mono hs u2⟩
      | sd ys =>
        obtain ⟨q, us, rfl, u1, u2⟩ := h2
        exact ⟨q, us, rfl, hs _ _ u1, Paired.mapP u2 fun _ _ z => ⟨z.1, dp_mono hs z.2⟩⟩
      | so C fs =>
        obtain ⟨q, dx, us, rfl, u1, u2⟩ := h2
        exact ⟨q, dx, us, rfl, hs _ _ u1, fsr_mono hs u2⟩
      | rw _ _ _ _ => exact RwR.mono hs h2
      | oi C fs =>
        obtain ⟨q, dx, us, rfl, u1, u2, u3, u4⟩ := h2
        exact ⟨q, dx, us, rfl, u1, out (dead e rfl h1) u2, fsr_mono hs u3, u4⟩
  · rcases set_get e with ⟨rfl, e, _⟩ | ⟨hj, e⟩
    · rw [S.at_] at w; cases w
      exact (S.own p List.mem_cons_self).1
    · exact S.base.free (E.new j r q e o w)
  · rcases set_get ej with ⟨zj, _, _⟩ | ⟨hj, ej'⟩
    · rcases set_get ek with ⟨zk, _, _⟩ | ⟨hk, ek'⟩
      · rw [zj, zk]
      · rw [zj, S.at_] at w; cases w
        have := dead ek' ok w'
        rw [S.lst] at this; cases this
    · rcases set_get ek with ⟨zk, _, _⟩ | ⟨hk, ek'⟩
      · rw [zk, S.at_] at w'; cases w'
        have := dead ej' oj w
        rw [S.lst] at this; cases this
      · exact E.sep j k rj rk q ej' oj ek' ok w w'
  · rcases set_get e with ⟨rfl, e, _⟩ | ⟨hj, e⟩
    · cases e
    · obtain ⟨p, o, z, _⟩ := E.pin j xs e
      cases z
end
/-! ### what is said beside rows -/
section
variable {c : Ct} {i : Nat}
def SemEN (c : Ct) (i : Nat) (t : TE) (f : En → Rw → R SV) : Prop := ∀ Hb H0 Hs Hf H σ ρ p rs Q, Side c.K Hb H0 Hs Hf H σ ρ i p rs → Out c Hf H (f ρ (rwOf rs)) (GE c false Hf H Q) → t σ H Q
def SemTN (c : Ct) (i : Nat) (t : TT) (f : En → Rw → R Bool) : Prop := ∀ Hb H0 Hs Hf H σ ρ p rs Q, Side c.K Hb H0 Hs Hf H σ ρ i p rs → Out c Hf H (f ρ (rwOf rs)) (GT Hf H Q) → t σ H Q
theorem en_of {t : TE} {f : En → R SV} (h : SemE c false t f) : SemEN c i t (fun ρ _ => f ρ) := fun _ _ _ _ _ _ _ _ _ _ S o => h _ _ _ _ _ _ _ S.env o
theorem tn_of {t : TT} {f : En → R Bool} (h : SemT c t f) : SemTN c i t (fun ρ _ => f ρ) := fun _ _ _ _ _ _ _ _ _ _ S o => h _ _ _ _ _ _ _ S.env o
def binN (g : SV → SV → R SV) (fa fb : En → Rw → R SV) : En → Rw → R SV := fun ρ w => fa ρ w >>= fun a => fb ρ w >>= fun b => g a b
theorem en_bin {r : R2} {g : SV → SV → R SV} {ta tb : TE} {fa fb : En → Rw → R SV} (hr : R2ok c r g) (ha : SemEN c i ta fa) (hb : SemEN c i tb fb) : SemEN c i (tOp r ta tb) (binN g fa fb) := by
  intro Hb H0 Hs Hf H σ ρ p rs Q S o
  refine ha Hb H0 Hs Hf H σ ρ p rs _ S (Out.bind o fun a ea o1 => fun v Hf1 H1 x1 q1 _ => ?_)
  refine hb Hb H0 Hs Hf1 H1 σ ρ p rs _ (S.grow x1) (Out.bind (o1.grow x1 fun _ z => z) fun b eb o2 => fun u Hf2 H2 x2 q2 _ => ?_)
  exact hr Hf2 H2 v u a b _ x2.i (q1.grow x2) q2 (o2.grow x2 fun _ g => fun z Hf' H' y q _ => ((g.grow x1).grow x2) z Hf' H' y q fun e => nomatch e)
def asN (f : En → Rw → R SV) : En → Rw → R Bool := fun ρ w => f ρ w >>= bool1
theorem tn_tB {t : TE} {f : En → Rw → R SV} (h : SemEN c i t f) : SemTN c i (tB t) (asN f) := by
  intro Hb H0 Hs Hf H σ ρ p rs Q S o
  refine h Hb H0 Hs Hf H σ ρ p rs _ S (Out.bind o fun a ea o1 => fun v Hf1 H1 x1 q1 _ => ?_)
  unfold bool1 at o1
  split at o1
  · cases q1; exact ⟨_, rfl, o1 _ _ x1⟩
  · exact o1.elim
def notN' (f : En → Rw → R Bool) : En → Rw → R Bool := fun ρ w => f ρ w >>= fun b => .ok (!b)
theorem tn_not {t : TT} {f : En → Rw → R Bool} (h : SemTN c i t f) : SemTN c i (tNot t) (notN' f) := by
  intro Hb H0 Hs Hf H σ ρ p rs Q S o
  exact h Hb H0 Hs Hf H σ ρ p rs _ S (Out.bind o fun a ea o1 => fun Hf1 H1 x1 => o1 _ _ x1)
def orN (f g : En → Rw → R Bool) : En → Rw → R Bool := fun ρ w => f ρ w >>= fun b => if b = true then .ok true else g ρ w
theorem tn_or {t u : TT} {f g : En → Rw → R Bool} (h1 : SemTN c i t f) (h2 : SemTN c i u g) : SemTN c i (tOr t u) (orN f g) := by
  intro Hb H0 Hs Hf H σ ρ p rs Q S o
  refine h1 Hb H0 Hs Hf H σ ρ p rs _ S (Out.bind o fun a ea o1 => fun Hf1 H1 x1 => ?_)
  cases a with
  | true => exact (show GT Hf H Q true from o1) _ _ x1
  | false => exact h2 Hb H0 Hs Hf1 H1 σ ρ p rs _ (S.grow x1) (o1.grow x1 fun _ g => fun _ _ y => g _ _ (x1.trans y))
/-- is there a row -/
def anyN : En → Rw → R Bool := fun _ w => .ok (!w.isEmpty)
theorem tn_any : SemTN c i (fun σ H Q => tVar i σ H fun x H' => ∃ k, TruV c.K x H' k ∧ Q k H') anyN := by
  intro Hb H0 Hs Hf H σ ρ p rs Q S o
  refine ⟨.ref p, S.at_, _, .inl ⟨_, .inl (.inl (S.env.ext.h _ _ S.lst)), rfl⟩, ?_⟩
  have : (!(rs.map fun r : RowQ => V.ref r.t).isEmpty) = !(rwOf rs).isEmpty := by cases rs <;> rfl
  rw [this]
  exact (show GT Hf H Q _ from o) _ _ (.refl S.env.i)
/-- a part of the last row -/
def lastN (f1 : En → R SV) (j : Nat) : En → Rw → R SV := fun ρ w => f1 ρ >>= fun a => match a, w.getLast? with
  | .d (.int k), some r => if k = -1 then (match r.1[j]? with | some d => .ok (.d d) | none => .bad) else .bad
  | _, _ => .bad
theorem atI_m1 {α : Type} (A : List α) (x : α) : atI (A ++ [x]) (-1) = some x := by
  unfold atI ixN
  simp
  rw [if_pos (by omega)]
  have e : (-1 + ((A.length : Int) + 1)).toNat = A.length := by omega
  show (A ++ [x])[(-1 + ((A.length : Int) + 1)).toNat]? = _
  rw [e]; simp
theorem atI_n {α : Type} (xs : List α) (n : Nat) : atI xs (n : Int) = xs[n]? := by
  unfold atI ixN
  rw [if_pos (by omega)]
  by_cases h : (n : Int) < xs.length
  · rw [if_pos h]; rfl
  · rw [if_neg h, List.getElem?_eq_none (by omega)]; rfl
theorem rw_snoc (A : List RowQ) (r : RowQ) : rwOf (A.concat r) = rwOf A ++ [(r.us, r.ys)] ∧ (A.concat r).map (fun r : RowQ => V.ref r.t) = A.map (fun r => .ref r.t) ++ [.ref r.t] := by
  rw [List.concat_eq_append]
  unfold rwOf
  rw [List.map_append, List.map_append]
  exact ⟨rfl, rfl⟩
theorem en_last {t1 : TE} {f1 : En → R SV} {j : Nat} (h1 : SemE c false t1 f1) : SemEN c i (tOp (rIx c.K) (tOp (rIx c.K) (tVar i) t1) (tC (.int j))) (lastN f1 j) := by
  intro Hb H0 Hs Hf H σ ρ p rs Q S o
  refine ⟨.ref p, S.at_, ?_⟩
  refine h1 _ _ _ _ _ _ _ S.env (Out.bind o fun a ea o1 => fun v Hf1 H1 x1 q1 _ => ?_)
  have S1 := S.grow x1
  rcases List.eq_nil_or_concat rs with rfl | ⟨A, r, rfl⟩
  · have o2 : Out c Hf H (match a, (none : Option (List D × List D)) with
      | .d (.int k), some r => if k = -1 then (match r.1[j]? with | some d => R.ok (SV.d d) | none => .bad) else .bad
      | _, _ => .bad) (GE c false Hf H Q) := o1
    exfalso
    split at o2 <;> first | exact o2.elim | contradiction
  · rw [(rw_snoc A r).1, List.getLast?_concat] at o1
    split at o1
    rotate_left
    · exact o1.elim
    rename_i k r' er hx
    cases er
    split at o1
    rotate_left
    · exact o1.elim
    rename_i hk
    subst hk
    split at o1
    rotate_left
    · exact o1.elim
    rename_i d ed
    cases (show v = .int (-1) from by cases q1; rfl)
    obtain ⟨vs, ws, a1, b1, c1, d1⟩ := S1.row r (by simp)
    have hl := S1.lst
    rw [(rw_snoc A r).2] at hl
    refine .inl ⟨p, _, -1, .ref r.t, rfl, rfl, .inl (.inl (S1.env.ext.h _ _ hl)), atI_m1 _ _, ?_⟩
    obtain ⟨v, z1, z2⟩ := dpAll_get b1 ed
    refine .inr (.inl ⟨r.t, _, j, v, rfl, rfl, .inl (.inl (S1.env.ext.h _ _ a1)), ?_, ?_⟩)
    · rw [atI_n]
      have hlt := (List.getElem?_eq_some_iff.mp z1).1
      rw [List.getElem?_append_left hlt]; exact z1
    · exact (show GE c false Hf H Q (.d d) from o1) v Hf1 H1 x1 z2 fun e => nomatch e
theorem Side.ext {K : Kx} {Hb H0 Hs Hf H : Hp} {σ : L2.St} {ρ : En} {p : Addr} {rs : List RowQ} (S : Side K Hb H0 Hs Hf H σ ρ i p rs) : Ext Hb H0 Hf H :=
  ⟨S.env.ext.f, S.base.trans S.env.ext.h, S.env.ext.i, fun b hb => by
    rcases S.env.ext.n b hb with y | y
    · exact .inl y
    · exact .inr (S.base.free y)⟩
/-- statements beside rows -/
def SemSN (c : Ct) (i : Nat) (t : TS) (F : En → Rw → R (En × Rw)) : Prop := ∀ Hb H0 Hs Hf H σ ρ p rs Dn, Side c.K Hb H0 Hs Hf H σ ρ i p rs → Out c Hb H0 (F ρ (rwOf rs)) (fun q => ∀ Hs' Hf' H' σ' rs', Same Hf Hf' → Side c.K Hb H0 Hs' Hf' H' σ' q.1 i p rs' → rwOf rs' = q.2 → Dn.nx σ' H') → t Dn σ H
def skipN : En → Rw → R (En × Rw) := fun ρ w => .ok (ρ, w)
theorem sn_skip : SemSN c i tNext skipN := fun _ _ _ _ _ _ _ _ _ _ S o => o _ _ _ _ _ (.refl _) S rfl
def seqN (f g : En → Rw → R (En × Rw)) : En → Rw → R (En × Rw) := fun ρ w => f ρ w >>= fun q => g q.1 q.2
theorem sn_seq {t u : TS} {f g : En → Rw → R (En × Rw)} (h1 : SemSN c i t f) (h2 : SemSN c i u g) : SemSN c i (tSeq t u) (seqN f g) := by
  intro Hb H0 Hs Hf H σ ρ p rs Dn S o
  refine h1 Hb H0 Hs Hf H σ ρ p rs _ S (Out.bind o fun q eq o1 => fun Hs1 Hf1 H1 σ1 rs1 x1 S1 e1 => ?_)
  rw [← e1] at o1
  refine h2 Hb H0 Hs1 Hf1 H1 σ1 q.1 p rs1 Dn S1 ?_
  cases e : g q.1 (rwOf rs1) with
  | bad => rw [e] at o1; exact o1.elim
  | ex n as => rw [e] at o1; exact o1
  | ok q2 =>
    rw [e] at o1
    exact fun Hs2 Hf2 H2 σ2 rs2 x2 S2 e2 => o1 _ _ _ _ _ (x1.trans x2) S2 e2
def ifN (ft : En → Rw → R Bool) (f g : En → Rw → R (En × Rw)) : En → Rw → R (En × Rw) := fun ρ w => ft ρ w >>= fun b => if b = true then f ρ w else g ρ w
theorem sn_if {t : TT} {u v : TS} {ft : En → Rw → R Bool} {f g : En → Rw → R (En × Rw)} (h : SemTN c i t ft) (h1 : SemSN c i u f) (h2 : SemSN c i v g) : SemSN c i (tIfS t u v) (ifN ft f g) := by
  intro Hb H0 Hs Hf H σ ρ p rs Dn S o
  refine h Hb H0 Hs Hf H σ ρ p rs _ S ((Out.bind o fun a ea o1 => ?_ : Out c Hb H0 (ft ρ (rwOf rs)) (GT Hf H fun b H1 => if b = true then u Dn σ H1 else v Dn σ H1)).here S.ext)
  intro Hf1 H1 x1
  cases a with
  | true =>
    refine h1 Hb H0 Hs Hf1 H1 σ ρ p rs Dn (S.grow x1) ?_
    have o2 : Out c Hb H0 (f ρ (rwOf rs)) _ := o1
    cases e : f ρ (rwOf rs) with
    | bad => rw [e] at o2; exact o2.elim
    | ex n as => rw [e] at o2; exact o2
    | ok q2 => rw [e] at o2; exact fun Hs2 Hf2 H2 σ2 rs2 x2 S2 e2 => o2 _ _ _ _ _ (x1.f.trans x2) S2 e2
  | false =>
    refine h2 Hb H0 Hs Hf1 H1 σ ρ p rs Dn (S.grow x1) ?_
    have o2 : Out c Hb H0 (g ρ (rwOf rs)) _ := o1
    cases e : g ρ (rwOf rs) with
    | bad => rw [e] at o2; exact o2.elim
    | ex n as => rw [e] at o2; exact o2
    | ok q2 => rw [e] at o2; exact fun Hs2 Hf2 H2 σ2 rs2 x2 S2 e2 => o2 _ _ _ _ _ (x1.f.trans x2) S2 e2
/-- rows[-1][j].append(x) -/
def pushN (f1 : En → R SV) (j : Nat) (f : En → R SV) : En → Rw → R (En × Rw) := fun ρ w => f1 ρ >>= fun a => match a, w.getLast? with
  | .d (.int k), some r => if k = -1 ∧ r.1.length = j then f ρ >>= fun v => datS v >>= fun d => if r.2.length < sizeLine then .ok (ρ, w.dropLast ++ [(r.1, r.2 ++ [d])]) else .bad else .bad
  | _, _ => .bad
theorem sn_push {t1 t : TE} {f1 f : En → R SV} {j : Nat} (h1 : SemE c false t1 f1) (h : SemE c true t f) : SemSN c i (tDrop (tBM c.K "list" rAppend (tOp (rIx c.K) (tOp (rIx c.K) (tVar i) t1) (tC (.int j))) (tCons t tNil))) (pushN f1 j f) := by
  intro Hb H0 Hs Hf H σ ρ p rs Dn S o
  refine ⟨.ref p, S.at_, ?_⟩
  refine h1 _ _ _ _ _ _ _ S.env ((Out.bind o fun a ea o1 => fun v Hf1 H1 x1 q1 _ => ?_ : Out c Hb H0 (f1 ρ) (GE c false Hf H _)).here S.ext)
  have S1 := S.grow x1
  rcases List.eq_nil_or_concat rs with rfl | ⟨A, r, rfl⟩
  · exfalso
    have o2 : Out c Hb H0 (match a, (none : Option (List D × List D)) with
      | .d (.int k), some r => if k = -1 ∧ r.1.length = j then f ρ >>= fun v => datS v >>= fun d => if r.2.length < sizeLine then R.ok (ρ, (rwOf []).dropLast ++ [(r.1, r.2 ++ [d])]) else .bad else .bad
      | _, _ => .bad) _ := o1
    split at o2 <;> first | exact o2.elim | contradiction
  · rw [(rw_snoc A r).1, List.getLast?_concat] at o1
    split at o1
    rotate_left
    · exact o1.elim
    rename_i k r' er hx
    cases er
    split at o1
    rotate_left
    · exact o1.elim
    rename_i hk
    obtain ⟨rfl, hj⟩ := hk
    cases (show v = .int (-1) from by cases q1; rfl)
    obtain ⟨vs, ws, a1, b1, c1, d1⟩ := S1.row r (by simp)
    have hl := S1.lst
    rw [(rw_snoc A r).2] at hl
    refine .inl ⟨p, _, -1, .ref r.t, rfl, rfl, .inl (.inl (S1.env.ext.h _ _ hl)), atI_m1 _ _, ?_⟩
    have lv : vs.length = j := by rw [dpAll_len b1]; exact hj
    refine .inr (.inl ⟨r.t, _, j, .ref r.b, rfl, rfl, .inl (.inl (S1.env.ext.h _ _ a1)), ?_, ?_⟩)
    · rw [atI_n, ← lv]; simp
    refine ⟨.inl ⟨rfl, ws, .inl (.inl (S1.env.ext.h _ _ c1))⟩, ?_⟩
    refine h _ _ _ _ _ _ _ S1.env ((Out.bind o1 fun a ea o2 => ?_ : Out c Hb H0 (f ρ) (GE c true Hf1 H1 _)).here S1.ext)
    intro u Hf2 H2 x2 q2 fr
    obtain ⟨d, ed, o3⟩ := out_dat o2
    obtain ⟨Hf3, x3, q3⟩ := froze x2 q2 (fr rfl) ed
    split at o3
    rotate_left
    · exact o3.elim
    rename_i hlen
    have S3 := S1.grow x3
    refine ⟨r.b, ws, u, rfl, rfl, S3.env.ext.h _ _ c1, by rw [dpAll_len d1]; exact hlen, ?_⟩
    rw [List.concat_eq_append] at S3
    refine o3 _ _ _ _ _ (x1.f.trans x3.f) (S3.push c1 (dpAll_mono x3.f d1) q3) ?_
    rw [List.dropLast_concat]
    unfold rwOf
    rw [List.map_append]; rfl
/-- rows.append((x, [..])) -/
def newN (fe : En → R SV) (fi : En → R (List D)) : En → Rw → R (En × Rw) := fun ρ w => fe ρ >>= fun a => datS a >>= fun d => fi ρ >>= fun ds => if ds.length ≤ 1000 ∧ w.length < sizeLine then .ok (ρ, w ++ [([d], ds)]) else .bad
theorem sn_new {te : TE} {ti : TA} {fe : En → R SV} {fi : En → R (List D)} (he : SemE c true te fe) (hi : SemA c ti fi) : SemSN c i (tDrop (tBM c.K "list" rAppend (tVar i) (tCons (tTup (tCons te (tCons (tLst ti) tNil))) tNil))) (newN fe fi) := by
  intro Hb H0 Hs Hf H σ ρ p rs Dn S o
  refine ⟨.ref p, S.at_, .inl ⟨rfl, _, .inl (.inl (S.env.ext.h _ _ S.lst))⟩, ?_⟩
  refine he _ _ _ _ _ _ _ S.env ((Out.bind o fun a ea o1 => ?_ : Out c Hb H0 (fe ρ) (GE c true Hf H _)).here S.ext)
  intro v Hf1 H1 x1 q1 fr
  obtain ⟨d, ed, o2⟩ := out_dat o1
  obtain ⟨Hf2, x2, q2⟩ := froze x1 q1 (fr rfl) ed
  have S2 := S.grow x2
  refine hi _ _ _ _ _ _ _ S2.env ((Out.bind o2 fun ds eds o3 => ?_ : Out c Hb H0 (fi ρ) (GA c Hf2 H1 _)).here S2.ext)
  intro ws Hf3 H3 x3 q3
  have S3 := S2.grow x3
  split at o3
  rotate_left
  · exact o3.elim
  rename_i hlen
  have hz := sizeLine_eq
  refine ⟨by rw [dpAll_len q3]; omega, fun q hq => ⟨by show 2 ≤ _; omega, fun T hT => ?_⟩⟩
  have ll : (rs.map fun r : RowQ => V.ref r.t).length < sizeLine := by
    have := hlen.2
    unfold rwOf at this
    rw [List.length_map] at this ⊢
    exact this
  have hTq : T ≠ q := fun z => by rw [z, upd_same] at hT; cases hT
  have hT' : H3 T = none := by rw [upd_ne hTq] at hT; exact hT
  have lp : (upd (upd H3 q (.lst ws)) T (.tup [v, .ref q])) p = some (.lst (rs.map fun r => .ref r.t)) := by
    have e := S3.env.ext.h _ _ S3.lst
    rw [upd_ne (ne_of_none e hT'), upd_ne (ne_of_none e hq)]; exact e
  refine ⟨p, _, .ref T, rfl, rfl, lp, ll, ?_⟩
  obtain ⟨Hs', S4⟩ := S3.newrow (vs := [v]) (us := [d]) hq hT (.cons (dp_mono x3.f q2) .nil) q3
  refine o3 _ _ _ _ _ (x2.f.trans x3.f) S4 ?_
  unfold rwOf
  rw [List.map_append]; rfl
/-! ### a loop that makes rows -/
def deadB (ρ : En) (i : Nat) : Bool := match ρ[i]? with
  | some none => true
  | _ => false
theorem deadB_is {ρ : En} {i : Nat} (h : deadB ρ i = true) : ρ[i]? = some none := by
  unfold deadB at h
  split at h
  · assumption
  · cases h
def killN (i : Nat) (is : List Nat) (F : En → Rw → R (En × Rw)) : En → Rw → R (En × Rw) := fun ρ w => F ρ w >>= fun q => if deadB (killE is q.1) i = true then .ok (killE is q.1, q.2) else .bad
theorem sn_kill {is : List Nat} {t : TS} {F : En → Rw → R (En × Rw)} (h : SemSN c i t F) : SemSN c i t (killN i is F) := by
  intro Hb H0 Hs Hf H σ ρ p rs Dn S o
  refine h Hb H0 Hs Hf H σ ρ p rs Dn S (Out.bind o fun q eq o1 => fun Hs1 Hf1 H1 σ1 rs1 x1 S1 e1 => ?_)
  split at o1
  rotate_left
  · exact o1.elim
  rename_i hd
  exact o1 Hs1 Hf1 H1 σ1 rs1 x1 ⟨S1.env.kill is, deadB_is hd, S1.at_, S1.lst, S1.row, S1.nd, S1.base, S1.own⟩ e1
def forN (i : Nat) (k : D → En → R En) (F : En → Rw → R (En × Rw)) : List D → En → Rw → R (En × Rw)
  | [], ρ, w => .ok (ρ, w)
  | x :: xs, ρ, w => match k x ρ with
    | .ok ρ1 => if deadB ρ1 i = true then F ρ1 w >>= fun q => forN i k F xs q.1 q.2 else .bad
    | _ => .bad
def rowsS (i : Nat) (fi : En → R (List D)) (k : D → En → R En) (F : En → Rw → R (En × Rw)) : En → R Fl := fun ρ => match ρ[i]? with
  | some (some (.ol [])) => if noPin ρ = true then fi ρ >>= fun xs => forN i k F xs (ρ.set i none) [] >>= fun q => .ok (.nx (q.1.set i (some (.ol (q.2.map rowD))))) else .bad
  | _ => .bad
theorem EnvOk.unFx {K : Kx} {B : Bs} {H0 Hf1 H1 Hf H : Hp} {σ : L2.St} {ρ : En} (I : EnvOk K ⟨Hf1, fun _ => .non⟩ H0 Hf H σ ρ) (xb : Ext B.h H0 Hf1 H1) : EnvOk K B H0 Hf H σ ρ :=
  ⟨⟨xb.f.trans I.ext.f, I.ext.h, I.ext.i, fun b hb => by
    rcases I.ext.n b hb with y | y
    · exact xb.n b y
    · exact .inr y⟩, I.len, I.sl, I.new, I.sep, fun j xs e => by
    obtain ⟨p, o, z, _⟩ := I.pin j xs e
    cases z⟩
theorem sem_rows {is : List Nat} {wi : TI} {g : TG} {tb : TS} {fi : En → R (List D)} {k : D → En → R En} {F : En → Rw → R (En × Rw)} (hi : SemI c wi fi) (hg : SemG c is g k) (his : i ∉ is) (hb : SemSN c i tb F) : SemS c (tFor wi g tb) (rowsS i fi k F) := by
  intro B H0 Hf H σ ρ Dn I o
  unfold rowsS at o
  split at o
  rotate_left
  · exact o.elim
  rename_i er
  split at o
  rotate_left
  · exact o.elim
  rename_i np
  refine hi B H0 Hf H σ ρ _ I ((Out.bind o fun xs exs o1 => ?_ : Out c B H0 (fi ρ) _).here I.ext)
  intro J Hf1 H1 x1 ⟨Y, w, hy⟩
  have I1 := I.grow x1
  have xb : Ext B.h H0 Hf1 H1 := I1.ext
  obtain ⟨Hs0, p, S0⟩ := Side.enter (I1.noFx np) er
  refine for_it w (fun m σ H => m ≤ xs.length ∧ ∃ Hs Hfi ρ' rs, Same Hf1 Hfi ∧ Side c.K Hf1 H0 Hs Hfi H σ ρ' i p rs ∧ Out c B H0 (forN i k F (xs.drop m) ρ' (rwOf rs) >>= fun q => R.ok (Fl.nx (q.1.set i (some (.ol (q.2.map rowD)))))) (GS c B H0 Dn)) ⟨Nat.zero_le _, Hs0, Hf1, _, [], .refl _, S0, o1⟩ (fun m σ H _ ⟨_, Hs, Hfi, ρ', rs, s, S, _⟩ => s.trans S.env.i) ?_ ?_
  · rintro m x σ H H' hlt ⟨_, Hs, Hfi, ρ', rs, s, S, o⟩ y
    obtain ⟨d, Hf', e1, x2, q⟩ := hy m H x H' Hfi hlt s S.env.i y
    have ed : xs.drop m = d :: xs.drop (m + 1) := by
      rw [List.drop_eq_getElem_cons hlt]
      rw [List.getElem?_eq_getElem hlt] at e1
      cases e1; rfl
    rw [ed] at o
    unfold forN at o
    have S2 := S.grow x2
    cases ek : k d ρ' with
    | bad => simp only [ek] at o; exact o.elim
    | ex n as => simp only [ek] at o; exact o.elim
    | ok ρ1 =>
      simp only [ek] at o
      split at o
      rotate_left
      · exact o.elim
      rename_i hd
      refine hg _ _ Hf' H' σ ρ' x d _ S2.env q ⟨ρ1, ek, fun σ1 hl hj I3 => ?_⟩
      have S3 : Side c.K Hf1 H0 Hs Hf' H' σ1 ρ1 i p rs := ⟨I3, deadB_is hd, by rw [hj i his]; exact S2.at_, S2.lst, S2.row, S2.nd, S2.base, S2.own⟩
      refine hb Hf1 H0 Hs Hf' H' σ1 ρ1 p rs _ S3 ?_
      cases eb : F ρ1 (rwOf rs) with
      | bad => rw [eb] at o; exact o.elim
      | ex n as => rw [eb] at o; exact ExW.rebase (show ExW c B.h H0 n as from o) xb
      | ok q2 =>
        rw [eb] at o
        exact fun Hs4 Hf4 H4 σ4 rs4 x4 S4 e4 => ⟨hlt, Hs4, Hf4, q2.1, rs4, (s.trans x2.f).trans x4, S4, by rw [e4]; exact o⟩
  · rintro σ H ⟨_, Hs, Hfi, ρ', rs, s, S, o⟩
    rw [List.drop_length] at o
    obtain ⟨Hf', I5⟩ := S.leave
    exact (show GS c B H0 Dn (.nx _) from o) _ _ _ (I5.unFx xb)
end
/-! ### the last row by its number -/
section
variable {c : Ct} {i : Nat}
def lastG (f1 : En → Rw → R SV) (j : Nat) : En → Rw → R SV := fun ρ w => f1 ρ w >>= fun a => match a, w.getLast? with
  | .d (.int k), some r => if k = -1 ∨ k + 1 = w.length then (match r.1[j]? with | some d => .ok (.d d) | none => .bad) else .bad
  | _, _ => .bad
theorem atI_l {α : Type} (A : List α) (x : α) (k : Int) (h : k = -1 ∨ k + 1 = ((A.length + 1 : Nat) : Int)) : atI (A ++ [x]) k = some x := by
  rcases h with rfl | h
  · exact atI_m1 A x
  · have e : k = ((A.length : Nat) : Int) := by omega
    rw [e, atI_n]; simp
theorem en_lastG {t1 : TE} {f1 : En → Rw → R SV} {j : Nat} (h1 : SemEN c i t1 f1) : SemEN c i (tOp (rIx c.K) (tOp (rIx c.K) (tVar i) t1) (tC (.int j))) (lastG f1 j) := by
  intro Hb H0 Hs Hf H σ ρ p rs Q S o
  refine ⟨.ref p, S.at_, ?_⟩
  refine h1 _ _ _ _ _ _ _ _ _ _ S (Out.bind o fun a ea o1 => fun v Hf1 H1 x1 q1 _ => ?_)
  have S1 := S.grow x1
  rcases List.eq_nil_or_concat rs with rfl | ⟨A, r, rfl⟩
  · have o2 : Out c Hf H (match a, (none : Option (List D × List D)) with
      | .d (.int k), some r => if k = -1 ∨ k + 1 = (rwOf []).length then (match r.1[j]? with | some d => R.ok (SV.d d) | none => .bad) else .bad
      | _, _ => .bad) (GE c false Hf H Q) := o1
    exfalso
    split at o2 <;> first | exact o2.elim | contradiction
  · rw [(rw_snoc A r).1, List.getLast?_concat] at o1
    split at o1
    rotate_left
    · exact o1.elim
    rename_i k r' er hx
    cases er
    split at o1
    rotate_left
    · exact o1.elim
    rename_i hk
    split at o1
    rotate_left
    · exact o1.elim
    rename_i d ed
    cases (show v = .int k from by cases q1; rfl)
    obtain ⟨vs, ws, a1, b1, c1, d1⟩ := S1.row r (by simp)
    have hl := S1.lst
    rw [(rw_snoc A r).2] at hl
    have hk' : k = -1 ∨ k + 1 = (((A.map fun r : RowQ => V.ref r.t).length + 1 : Nat) : Int) := by
      rw [List.length_map]
      rw [List.length_append] at hk
      unfold rwOf at hk
      rw [List.length_map] at hk
      exact hk
    refine .inl ⟨p, _, k, .ref r.t, rfl, rfl, .inl (.inl (S1.env.ext.h _ _ hl)), atI_l _ _ _ hk', ?_⟩
    obtain ⟨v, z1, z2⟩ := dpAll_get b1 ed
    refine .inr (.inl ⟨r.t, _, j, v, rfl, rfl, .inl (.inl (S1.env.ext.h _ _ a1)), ?_, ?_⟩)
    · rw [atI_n]
      have hlt := (List.getElem?_eq_some_iff.mp z1).1
      rw [List.getElem?_append_left hlt]; exact z1
    · exact (show GE c false Hf H Q (.d d) from o1) v Hf1 H1 x1 z2 fun e => nomatch e
/-- rows[k][j].append(x), the last k by any name -/
def pushG (f1 : En → Rw → R SV) (j : Nat) (f : En → R SV) : En → Rw → R (En × Rw) := fun ρ w => f1 ρ w >>= fun a => match a, w.getLast? with
  | .d (.int k), some r => if (k = -1 ∨ k + 1 = w.length) ∧ r.1.length = j then f ρ >>= fun v => datS v >>= fun d => if r.2.length < sizeLine then .ok (ρ, w.dropLast ++ [(r.1, r.2 ++ [d])]) else .bad else .bad
  | _, _ => .bad
theorem sn_pushG {t1 t : TE} {f1 : En → Rw → R SV} {f : En → R SV} {j : Nat} (h1 : SemEN c i t1 f1) (h : SemE c true t f) : SemSN c i (tDrop (tBM c.K "list" rAppend (tOp (rIx c.K) (tOp (rIx c.K) (tVar i) t1) (tC (.int j))) (tCons t tNil))) (pushG f1 j f) := by
  intro Hb H0 Hs Hf H σ ρ p rs Dn S o
  refine ⟨.ref p, S.at_, ?_⟩
  refine h1 _ _ _ _ _ _ _ _ _ _ S ((Out.bind o fun a ea o1 => fun v Hf1 H1 x1 q1 _ => ?_ : Out c Hb H0 (f1 ρ (rwOf rs)) (GE c false Hf H _)).here S.ext)
  have S1 := S.grow x1
  rcases List.eq_nil_or_concat rs with rfl | ⟨A, r, rfl⟩
  · exfalso
    have o2 : Out c Hb H0 (match a, (none : Option (List D × List D)) with
      | .d (.int k), some r => if (k = -1 ∨ k + 1 = (rwOf []).length) ∧ r.1.length = j then f ρ >>= fun v => datS v >>= fun d => if r.2.length < sizeLine then R.ok (ρ, (rwOf []).dropLast ++ [(r.1, r.2 ++ [d])]) else .bad else .bad
      | _, _ => .bad) _ := o1
    split at o2 <;> first | exact o2.elim | contradiction
  · rw [(rw_snoc A r).1, List.getLast?_concat] at o1
    split at o1
    rotate_left
    · exact o1.elim
    rename_i k r' er hx
    cases er
    split at o1
    rotate_left
    · exact o1.elim
    rename_i hk
    obtain ⟨hk, hj⟩ := hk
    cases (show v = .int k from by cases q1; rfl)
    obtain ⟨vs, ws, a1, b1, c1, d1⟩ := S1.row r (by simp)
    have hl := S1.lst
    rw [(rw_snoc A r).2] at hl
    have hk' : k = -1 ∨ k + 1 = (((A.map fun r : RowQ => V.ref r.t).length + 1 : Nat) : Int) := by
      rw [List.length_map]
      rw [List.length_append] at hk
      unfold rwOf at hk
      rw [List.length_map] at hk
      exact hk
    refine .inl ⟨p, _, k, .ref r.t, rfl, rfl, .inl (.inl (S1.env.ext.h _ _ hl)), atI_l _ _ _ hk', ?_⟩
    have lv : vs.length = j := by rw [dpAll_len b1]; exact hj
    refine .inr (.inl ⟨r.t, _, j, .ref r.b, rfl, rfl, .inl (.inl (S1.env.ext.h _ _ a1)), ?_, ?_⟩)
    · rw [atI_n, ← lv]; simp
    refine ⟨.inl ⟨rfl, ws, .inl (.inl (S1.env.ext.h _ _ c1))⟩, ?_⟩
    refine h _ _ _ _ _ _ _ S1.env ((Out.bind o1 fun a ea o2 => ?_ : Out c Hb H0 (f ρ) (GE c true Hf1 H1 _)).here S1.ext)
    intro u Hf2 H2 x2 q2 fr
    obtain ⟨d, ed, o3⟩ := out_dat o2
    obtain ⟨Hf3, x3, q3⟩ := froze x2 q2 (fr rfl) ed
    split at o3
    rotate_left
    · exact o3.elim
    rename_i hlen
    have S3 := S1.grow x3
    refine ⟨r.b, ws, u, rfl, rfl, S3.env.ext.h _ _ c1, by rw [dpAll_len d1]; exact hlen, ?_⟩
    rw [List.concat_eq_append] at S3
    refine o3 _ _ _ _ _ (x1.f.trans x3.f) (S3.push c1 (dpAll_mono x3.f d1) q3) ?_
    rw [List.dropLast_concat]
    unfold rwOf
    rw [List.map_append]; rfl
/-- how many rows -/
def lenN : En → Rw → R SV := fun _ w => .ok (.d (.int w.length))
theorem en_len : SemEN c i (tCB (rLen c.K) (tCons (tVar i) tNil)) lenN := by
  intro Hb H0 Hs Hf H σ ρ p rs Q S o
  refine ⟨.ref p, S.at_, ?_⟩
  refine ⟨.ref p, (rs.map fun r : RowQ => V.ref r.t).length, rfl, .inl ⟨_, .inl (.inl (S.env.ext.h _ _ S.lst)), rfl⟩, ?_⟩
  have e : (rs.map fun r : RowQ => V.ref r.t).length = (rwOf rs).length := by unfold rwOf; rw [List.length_map, List.length_map]
  rw [e]
  exact GE.now (show GE c false Hf H Q _ from o) S.env.i (.int _)
def andN (f g : En → Rw → R Bool) : En → Rw → R Bool := fun ρ w => f ρ w >>= fun b => if b = true then g ρ w else .ok false
theorem tn_and {t u : TT} {f g : En → Rw → R Bool} (h1 : SemTN c i t f) (h2 : SemTN c i u g) : SemTN c i (tAnd t u) (andN f g) := by
  intro Hb H0 Hs Hf H σ ρ p rs Q S o
  refine h1 Hb H0 Hs Hf H σ ρ p rs _ S (Out.bind o fun a ea o1 => fun Hf1 H1 x1 => ?_)
  cases a with
  | false => exact (show GT Hf H Q false from o1) _ _ x1
  | true => exact h2 Hb H0 Hs Hf1 H1 σ ρ p rs _ (S.grow x1) (o1.grow x1 fun _ g => fun _ _ y => g _ _ (x1.trans y))
end
/-! ### >= of alike data -/
section
variable {c : Ct}
def rGeD (K : PySem.W.Frag) : R2 := fun x y H Q => ∃ d e, Dp K H x d ∧ Dp K H y e ∧ ltOk d e = true ∧ Q (.bl (!PySem.W.dataLt d e)) H
theorem op_geD {X : Cx} (hu : X.A.units + 65 < cLine) : OpR X (compareOp .GtE) (rGeD X.K) := by
  intro pins s σ H x y v u Q I rx ry h
  obtain ⟨d, e, hd, he, ok, q⟩ := h
  unfold ltOk at ok
  rw [Bool.and_eq_true, Bool.and_eq_true] at ok
  obtain ⟨as, r1⟩ := Dp.reads I d x v hd rx
  obtain ⟨bs, r2⟩ := Dp.reads I e y u he ry
  have hdp := of_decide_eq_true ok.2
  refine PySem.W.rcGe_alike d e X.A s v u as bs r1 r2 ok.1.1 (fun z => ?_) ?_ X.prog X.w _ _ ⟨.bl _, H, I, rfl, q⟩
  · subst z; simp [isN] at ok
  · have := Nat.min_le_left d.depth e.depth
    omega
def geG (a b : SV) : R SV := datS a >>= fun x => datS b >>= fun y => if ltOk x y = true then .ok (.d (.bool (!PySem.W.dataLt x y))) else .bad
theorem r2_geG : R2ok c (rGeD c.K) geG := by
  intro Hf H x y rx ry Q i hx hy o
  unfold geG at o
  cases e1 : datS rx with
  | ok d =>
    cases e2 : datS ry with
    | ok e =>
      simp only [e1, e2, ok_bind] at o
      split at o
      · rename_i h; exact ⟨d, e, looked (c := c) i hx e1, looked (c := c) i hy e2, h, GE.now o i (.bl _)⟩
      · exact o.elim
    | ex n as => cases ry <;> cases e2
    | bad => simp only [e1, e2, ok_bind, bad_bind] at o; exact o.elim
  | ex n as => cases rx <;> cases e1
  | bad => simp only [e1, bad_bind] at o; exact o.elim
end
/-! ### xs.count(y) -/
section
variable {c : Ct}
def rCntP (K : PySem.W.Frag) : V → List V → Hp → VK → Prop := fun x ys H Q => ∃ d xs u, ys = [u] ∧ Dp K H x (.list xs) ∧ Dp K H u d ∧ shpD d = true ∧ shpD (.list xs) = true ∧ Q (.int ((xs.countP fun z => PyData.eqv z d : Nat) : Int)) H
theorem mt_cntP {X : Cx} (hu : X.A.units + 65 < cLine) : MtR X "list.count" (rCntP X.K) := by
  intro pins s σ H x xs v us Q I rx rxs h
  obtain ⟨d, es, y, rfl, hl, hd, sd, sl, q⟩ := h
  obtain ⟨u, rfl, ru⟩ := rxs.one
  obtain ⟨as, r1⟩ := Dp.reads I _ x v hl rx
  obtain ⟨bs, r2⟩ := Dp.reads I _ y u hd ru
  have h1 := shpD_of sd
  have h2 := shpD_of sl
  have h3 : PyData.plainAll es = true := h2.1
  cases r1 with
  | list k1 k2 k3 k4 => exact PySem.SeqAt.count_list_data ⟨_, k1, k2, _, k3⟩ k4 r2 h3 h1.1 (by omega) ⟨.int _, H, I.tok _, ⟨_, rfl⟩, q⟩
def numS (xs : List D) (b : SV) : R SV := datS b >>= fun d => if shpD d = true ∧ shpD (.list xs) = true then .ok (.d (.int ((xs.countP fun z => PyData.eqv z d : Nat) : Int))) else .bad
def numE (f g : En → R SV) : En → R SV := fun ρ => f ρ >>= fun a => datL a >>= fun xs => g ρ >>= numS xs
theorem sem_count {t u : TE} {f g : En → R SV} (h : SemE c false t f) (h' : SemE c false u g) : SemE c true (tBM c.K.k "list" (rCntP c.K.k) t (tCons u tNil)) (numE f g) := by
  intro B H0 Hf H σ ρ Q I o
  refine h B H0 Hf H σ ρ _ I (Out.bind o fun a ea o1 => fun v Hf1 H1 x1 q1 _ => ?_)
  cases el : datL a with
  | bad => rw [el] at o1; exact o1.elim
  | ex n as =>
    exfalso
    revert el
    cases a with
    | d x => cases x <;> intro el <;> cases el
    | _ => intro el; cases el
  | ok xs =>
    rw [el, ok_bind] at o1
    obtain ⟨p, vs, rfl, hl, hq⟩ := datL_ok x1.i q1 el
    refine ⟨.inl ⟨rfl, vs, hl⟩, ?_⟩
    refine h' B H0 Hf1 H1 σ ρ _ (I.grow x1) (Out.bind (o1.grow x1 fun _ z => z) fun b eb o2 => fun w Hf2 H2 x2 q2 fr2 => ?_)
    obtain ⟨d, ed, o3⟩ := out_dat o2
    split at o3
    rotate_left
    · exact o3.elim
    rename_i hk
    exact ⟨d, xs, w, rfl, .lst (x2.h.seq hl) (dpAll_mono (x2.f.trans x2.i) hq), looked (c := c) x2.i q2 ed, hk.1, hk.2, GE.now (GE.grow (GE.grow (show GE c true Hf H Q _ from o3) x1) x2) x2.i (.int _)⟩
end
end Pl
/-! Pm: the plain functions, computed. -/
namespace Pl
open PySem PySem.Spec PyProof.Rows L2

/-- an equation by reckoning that is used as an equation -/
theorem nrfl {α : Sort _} {a b : α} (h : a = b) : a = b := h
/-! ### applied combinators -/
section
variable (ρ : En) (g : SV → SV → R SV) (g1 : SV → R SV) (gl : List SV → R SV) (fa fb fc : En → R SV) (ft fu : En → R Bool) (f f' : En → R Fl) (i n : Nat) (d : D) (fA : En → R (List D)) (fB : En → R (List SV)) (gf : List D → R SV)
@[simp] theorem bin_ap : bin g fa fb ρ = (fa ρ >>= fun a => fb ρ >>= fun b => g a b) := nrfl rfl
@[simp] theorem una_ap : una g1 fa ρ = (fa ρ >>= g1) := nrfl rfl
@[simp] theorem kon_ap : kon d ρ = .ok (.d d) := nrfl rfl
@[simp] theorem asT_ap : asT fa ρ = (fa ρ >>= bool1) := nrfl rfl
@[simp] theorem tru_ap : tru fa ρ = (fa ρ >>= truS) := nrfl rfl
@[simp] theorem andT_ap : andT ft fu ρ = (ft ρ >>= fun b => if b = true then fu ρ else .ok false) := nrfl rfl
@[simp] theorem orT_ap : orT ft fu ρ = (ft ρ >>= fun b => if b = true then .ok true else fu ρ) := nrfl rfl
@[simp] theorem notT_ap : notT ft ρ = (ft ρ >>= fun b => .ok (!b)) := nrfl rfl
@[simp] theorem andV_ap : andV fa fb ρ = (fa ρ >>= bool1 >>= fun b => if b = true then fb ρ else .ok (.d (.bool false))) := nrfl rfl
@[simp] theorem orV_ap : orV fa fb ρ = (fa ρ >>= bool1 >>= fun b => if b = true then .ok (.d (.bool true)) else fb ρ) := nrfl rfl
@[simp] theorem notV_ap : notV fa ρ = (fa ρ >>= bool1 >>= fun b => .ok (.d (.bool !b))) := nrfl rfl
@[simp] theorem notN_ap : notN fa ρ = (fa ρ >>= truS >>= fun b => .ok (.d (.bool !b))) := nrfl rfl
@[simp] theorem iff_ap : iff' ft fa fb ρ = (ft ρ >>= fun b => if b = true then fa ρ else fb ρ) := nrfl rfl
@[simp] theorem chain_ap (g' : SV → SV → R SV) : chain g g' fa fb fc ρ = (fa ρ >>= fun a => fb ρ >>= fun b => g a b >>= fun z => bool1 z >>= fun k => if k = true then fc ρ >>= fun w => g' b w else .ok (.d (.bool false))) := nrfl rfl
@[simp] theorem conA_ap : conA fa fA ρ = (fa ρ >>= fun a => datS a >>= fun d => fA ρ >>= fun ds => .ok (d :: ds)) := nrfl rfl
@[simp] theorem nilA_ap : nilA ρ = .ok [] := nrfl rfl
@[simp] theorem conB_ap : conB fa fB ρ = (fa ρ >>= fun a => fB ρ >>= fun ds => .ok (a :: ds)) := nrfl rfl
@[simp] theorem nilB_ap : nilB ρ = .ok [] := nrfl rfl
@[simp] theorem dispT_ap : dispT fA ρ = (fA ρ >>= fun ds => if ds.length ≤ 1000 then .ok (.d (.tuple ds)) else .bad) := nrfl rfl
@[simp] theorem dispL_ap : dispL fA ρ = (fA ρ >>= fun ds => if ds.length ≤ 1000 then .ok (.ol ds) else .bad) := nrfl rfl
@[simp] theorem callF_ap : callF n gf fA ρ = (fA ρ >>= fun ds => if ds.length = n then gf ds else .bad) := nrfl rfl
@[simp] theorem callB_ap : callB gl fB ρ = (fB ρ >>= gl) := nrfl rfl
@[simp] theorem isi_ap (T : String) : isi T fa ρ = (fa ρ >>= fun a => datS a >>= fun d => match kitB (tyN d) T with | some b => .ok (.d (.bool b)) | none => .bad) := nrfl rfl
@[simp] theorem slice_ap (fl fh : En → R (Option Int)) : slice fa fl fh ρ = (fa ρ >>= fun a => fl ρ >>= fun l => fh ρ >>= fun h => slS a l h) := nrfl rfl
@[simp] theorem noO_ap : noO ρ = .ok none := nrfl rfl
@[simp] theorem someO_ap : someO fa ρ = (fa ρ >>= fun a => match a with | .d (.int i) => .ok (some i) | _ => .bad) := nrfl rfl
@[simp] theorem seqS_ap : seqS f f' ρ = (f ρ >>= fun fl => match fl with | .nx ρ' => f' ρ' | z => .ok z) := nrfl rfl
@[simp] theorem skip_ap : skip ρ = .ok (.nx ρ) := nrfl rfl
@[simp] theorem ifS_ap : ifS ft f f' ρ = (ft ρ >>= fun b => if b = true then f ρ else f' ρ) := nrfl rfl
@[simp] theorem retS_ap : retS fa ρ = (fa ρ >>= fun r => .ok (.rt r)) := nrfl rfl
@[simp] theorem retV_ap : retV i ρ = (peek i ρ >>= fun r => .ok (.rt r)) := nrfl rfl
@[simp] theorem retN_ap : retN ρ = .ok (.rt (.d .none)) := nrfl rfl
@[simp] theorem brkS_ap : brkS ρ = .ok (.bk ρ) := nrfl rfl
@[simp] theorem cntS_ap : cntS ρ = .ok (.ct ρ) := nrfl rfl
@[simp] theorem exprS_ap : exprS fa ρ = (fa ρ >>= fun _ => .ok (.nx ρ)) := nrfl rfl
@[simp] theorem asgS_ap : asgS i fa ρ = (fa ρ >>= fun r => if r.npin = true then .ok (.nx (ρ.set i (some r))) else .bad) := nrfl rfl
@[simp] theorem npin_d (x : D) : SV.npin (.d x) = true := nrfl rfl
@[simp] theorem npin_ol (x : List D) : SV.npin (.ol x) = true := nrfl rfl
@[simp] theorem npin_od (x : List (Key × D)) : SV.npin (.od x) = true := nrfl rfl
@[simp] theorem asgG_ap (k : D → En → R En) : asgG k fa ρ = (fa ρ >>= fun r => datS r >>= fun d => match k d ρ with | .ok ρ' => .ok (.nx ρ') | _ => .bad) := nrfl rfl
@[simp] theorem kill_ap (is : List Nat) : kill is f ρ = (f ρ >>= fun fl => match fl with | .nx ρ' => .ok (.nx (killE is ρ')) | .ct ρ' => .ok (.ct (killE is ρ')) | .bk ρ' => .ok (.bk (killE is ρ')) | z => .ok z) := nrfl rfl
@[simp] theorem frzS_ap (is : List Nat) : frzS is f ρ = f (is.foldl (fun ρ i => frzE i ρ) ρ) := nrfl rfl
@[simp] theorem forS_ap (fi : En → R (List D)) (k : D → En → R En) : forS fi k f ρ = (fi ρ >>= fun xs => forF k f xs ρ) := nrfl rfl
@[simp] theorem seqD_ap : seqD fa ρ = (fa ρ >>= fun a => match a with
  | .d (.list xs) => .ok xs
  | .ol xs => .ok xs
  | .d (.tuple xs) => .ok xs
  | .d (.str z) => .ok (z.cps.toList.map fun n => .str ⟨#[n]⟩)
  | _ => .bad) := nrfl rfl
@[simp] theorem rngD1_ap : rngD1 fB ρ = (fB ρ >>= fun a => match a with
  | [.d (.int j)] => if okR j = true then .ok (rng 0 j) else .bad
  | _ => .bad) := nrfl rfl
@[simp] theorem rngD2_ap : rngD2 fB ρ = (fB ρ >>= fun a => match a with
  | [.d (.int i), .d (.int j)] => if okR i = true ∧ okR j = true then .ok (rng i j) else .bad
  | _ => .bad) := nrfl rfl
@[simp] theorem lcE_ap (fi : En → R (List D)) (k : D → En → R En) (vs : List Nat) : lcE fi k ft fa vs ρ = (fi ρ >>= fun xs => if xs.length < sizeLine then lcF k ft fa (wipeE ρ vs) xs >>= fun ys => .ok (.ol ys) else .bad) := nrfl rfl
@[simp] theorem yesT_ap : yesT ρ = .ok true := nrfl rfl
@[simp] theorem setD_ap : setD i d ρ = .ok (ρ.set i (some (.d d))) := nrfl rfl
@[simp] theorem gsN_ap : gsN [] ρ = .ok ρ := nrfl rfl
@[simp] theorem gsC_ap (k : D → En → R En) (ks : List D → En → R En) (ds : List D) : gsC k ks (d :: ds) ρ = (k d ρ >>= ks ds) := nrfl rfl
@[simp] theorem tupG_ap (ks : List D → En → R En) (ds : List D) : tupG n ks (.tuple ds) ρ = if ds.length = n then ks ds ρ else .bad := nrfl rfl
@[simp] theorem tupG_apL (ks : List D → En → R En) (ds : List D) : tupG n ks (.list ds) ρ = if ds.length = n then ks ds ρ else .bad := nrfl rfl
@[simp] theorem getV_ap : getV i ρ = (match ρ[i]? with | some (some (.d x)) => .ok (.d x) | some (some (.sk x)) => .ok (.sk x) | some (some (.sd x)) => .ok (.sd x) | some (some (.so C x)) => .ok (.so C x) | _ => .bad) := nrfl rfl
@[simp] theorem peek_ap : peek i ρ = (match ρ[i]? with | some (some r) => .ok r | _ => .bad) := nrfl rfl
@[simp] theorem appS_ap : appS i fa ρ = (match ρ[i]? with
  | some (some (.ol xs)) => fa ρ >>= fun r => datS r >>= fun d => if xs.length < sizeLine then .ok (.nx (ρ.set i (some (.ol (xs ++ [d]))))) else .bad
  | _ => .bad) := nrfl rfl
@[simp] theorem frzE_ap : frzE i ρ = (match ρ[i]? with | some (some (.ol xs)) => ρ.set i (some (.d (.list xs))) | some (some (.kd xs)) => ρ.set i (some (.sk xs)) | some (some (.od xs)) => ρ.set i (some (.sd xs)) | some (some (.oi C xs)) => ρ.set i (some (.so C xs)) | _ => ρ) := nrfl rfl
@[simp] theorem killE_nil : killE [] ρ = ρ := nrfl rfl
@[simp] theorem killE_cons (is : List Nat) : killE (i :: is) ρ = killE is (ρ.set i none) := nrfl rfl
@[simp] theorem wipeE_nil : wipeE ρ [] = ρ := nrfl rfl
@[simp] theorem wipeE_cons (is : List Nat) : wipeE ρ (i :: is) = (wipeE ρ is).set i none := nrfl rfl
end
/-! ### values -/
def imax (a b : Int) : Int := if b > a then b else a
def imin (a b : Int) : Int := if b < a then b else a
section
variable (a b : Int) (x y : Str) (k : Bool) (xs ys : List D) (neg : Bool) (d e : D)
@[simp] theorem datS_d : datS (.d d) = .ok d := nrfl rfl
@[simp] theorem datS_ol : datS (.ol xs) = .ok (.list xs) := nrfl rfl
@[simp] theorem bool1_b : bool1 (.d (.bool k)) = .ok k := nrfl rfl
@[simp] theorem truS_b : truS (.d (.bool k)) = .ok k := nrfl rfl
@[simp] theorem truS_i : truS (.d (.int a)) = .ok (a != 0) := nrfl rfl
@[simp] theorem truS_n : truS (.d .none) = .ok false := nrfl rfl
@[simp] theorem truS_l : truS (.d (.list xs)) = .ok (!xs.isEmpty) := nrfl rfl
@[simp] theorem truS_t : truS (.d (.tuple xs)) = .ok (!xs.isEmpty) := nrfl rfl
@[simp] theorem truS_ol : truS (.ol xs) = .ok (!xs.isEmpty) := nrfl rfl
@[simp] theorem addS_i : addS (.d (.int a)) (.d (.int b)) = .ok (.d (.int (a + b))) := nrfl rfl
@[simp] theorem subS_i : subS (.d (.int a)) (.d (.int b)) = .ok (.d (.int (a - b))) := nrfl rfl
@[simp] theorem mulS_i : mulS (.d (.int a)) (.d (.int b)) = if (okM a || okM b) = true then .ok (.d (.int (a * b))) else .bad := nrfl rfl
@[simp] theorem mulA_i : mulA (.d (.int a)) (.d (.int b)) = if (okM a || okM b) = true then .ok (.d (.int (a * b))) else .bad := nrfl rfl
@[simp] theorem revS_ol : revS (.ol xs) = .ok (.ol xs.reverse) := nrfl rfl
@[simp] theorem revS_l : revS (.d (.list xs)) = .ok (.ol xs.reverse) := nrfl rfl
@[simp] theorem isbS_d (l : Bool) : isbS neg (.d d) (.d (.bool l)) = .ok (.d (.bool (if neg then !isbD d l else isbD d l))) := nrfl rfl
@[simp] theorem isbS_ol (l : Bool) : isbS neg (.ol xs) (.d (.bool l)) = .ok (.d (.bool (if neg then !isbD (.list xs) l else isbD (.list xs) l))) := nrfl rfl
@[simp] theorem isbD_b (l : Bool) : isbD (.bool k) l = decide (k = l) := nrfl rfl
@[simp] theorem isbD_i (l : Bool) : isbD (.int a) l = false := nrfl rfl
@[simp] theorem isbD_s (l : Bool) : isbD (.str x) l = false := nrfl rfl
@[simp] theorem isbD_n (l : Bool) : isbD .none l = false := nrfl rfl
@[simp] theorem isbD_l (l : Bool) : isbD (.list xs) l = false := nrfl rfl
@[simp] theorem isbD_t (l : Bool) : isbD (.tuple xs) l = false := nrfl rfl
@[simp] theorem modS_i : modS (.d (.int a)) (.d (.int b)) = if 0 < b then .ok (.d (.int (a % b))) else .bad := nrfl rfl
@[simp] theorem fdivS_i : fdivS (.d (.int a)) (.d (.int b)) = if 0 < b ∧ b < 1073741824 then .ok (.d (.int (a / b))) else .bad := nrfl rfl
@[simp] theorem powS_10_18 : powS (.d (.int 10)) (.d (.int 18)) = .ok (.d (.int 1000000000000000000)) := nrfl rfl
@[simp] theorem ltS_i : ltS (.d (.int a)) (.d (.int b)) = .ok (.d (.bool (decide (a < b)))) := nrfl rfl
@[simp] theorem leS_i : leS (.d (.int a)) (.d (.int b)) = .ok (.d (.bool (decide (a ≤ b)))) := nrfl rfl
@[simp] theorem gtS_i : gtS (.d (.int a)) (.d (.int b)) = .ok (.d (.bool (decide (b < a)))) := nrfl rfl
@[simp] theorem geS_i : geS (.d (.int a)) (.d (.int b)) = .ok (.d (.bool (decide (b ≤ a)))) := nrfl rfl
@[simp] theorem negS_i : negS (.d (.int a)) = .ok (.d (.int (-a))) := nrfl rfl
@[simp] theorem eqS_i : eqS neg (.d (.int a)) (.d (.int b)) = .ok (.d (.bool (if neg then !decide (a = b) else decide (a = b)))) := nrfl rfl
@[simp] theorem eqS_s : eqS neg (.d (.str x)) (.d (.str y)) = .ok (.d (.bool (if neg then !decide (x = y) else decide (x = y)))) := nrfl rfl
@[simp] theorem eqS_b (l : Bool) : eqS neg (.d (.bool k)) (.d (.bool l)) = .ok (.d (.bool (if neg then !decide (k = l) else decide (k = l)))) := nrfl rfl
@[simp] theorem isnS_d : isnS neg (.d d) (.d .none) = .ok (.d (.bool (if neg then !isN d else isN d))) := nrfl rfl
@[simp] theorem isnS_ol : isnS neg (.ol xs) (.d .none) = .ok (.d (.bool neg)) := nrfl rfl
@[simp] theorem isN_n : isN .none = true := nrfl rfl
@[simp] theorem isN_i : isN (.int a) = false := nrfl rfl
@[simp] theorem isN_b : isN (.bool k) = false := nrfl rfl
@[simp] theorem isN_s : isN (.str x) = false := nrfl rfl
@[simp] theorem isN_t : isN (.tuple xs) = false := nrfl rfl
@[simp] theorem isN_l : isN (.list xs) = false := nrfl rfl
@[simp] theorem lenS_l : lenS [.d (.list xs)] = .ok (.d (.int xs.length)) := nrfl rfl
@[simp] theorem lenS_ol : lenS [.ol xs] = .ok (.d (.int xs.length)) := nrfl rfl
@[simp] theorem lenS_t : lenS [.d (.tuple xs)] = .ok (.d (.int xs.length)) := nrfl rfl
@[simp] theorem intS_i : intS [.d (.int a)] = .ok (.d (.int a)) := nrfl rfl
@[simp] theorem intS_b : intS [.d (.bool k)] = .ok (.d (.int (if k then 1 else 0))) := nrfl rfl
@[simp] theorem max2S_i : max2S [.d (.int a), .d (.int b)] = .ok (.d (.int (imax a b))) := nrfl rfl
@[simp] theorem min2S_i : min2S [.d (.int a), .d (.int b)] = .ok (.d (.int (imin a b))) := nrfl rfl
@[simp] theorem listS_l : listS [.d (.list xs)] = .ok (.ol xs) := nrfl rfl
@[simp] theorem listS_ol : listS [.ol xs] = .ok (.ol xs) := nrfl rfl
@[simp] theorem listS_t : listS [.d (.tuple xs)] = .ok (.ol xs) := nrfl rfl
@[simp] theorem tupS_l : tupS [.d (.list xs)] = .ok (.d (.tuple xs)) := nrfl rfl
@[simp] theorem tupS_ol : tupS [.ol xs] = .ok (.d (.tuple xs)) := nrfl rfl
@[simp] theorem tupS_t : tupS [.d (.tuple xs)] = .ok (.d (.tuple xs)) := nrfl rfl
@[simp] theorem ixS_l : ixS (.d (.list xs)) (.d (.int a)) = (match atI xs a with | some d => .ok (.d d) | none => .bad) := nrfl rfl
@[simp] theorem ixS_ol : ixS (.ol xs) (.d (.int a)) = (match atI xs a with | some d => .ok (.d d) | none => .bad) := nrfl rfl
@[simp] theorem ixS_t : ixS (.d (.tuple xs)) (.d (.int a)) = (match atI xs a with | some d => .ok (.d d) | none => .bad) := nrfl rfl
@[simp] theorem slS_l (lo hi : Option Int) : slS (.d (.list xs)) lo hi = .ok (.ol (cutD xs lo hi)) := nrfl rfl
@[simp] theorem slS_ol (lo hi : Option Int) : slS (.ol xs) lo hi = .ok (.ol (cutD xs lo hi)) := nrfl rfl
@[simp] theorem slS_t (lo hi : Option Int) : slS (.d (.tuple xs)) lo hi = .ok (.d (.tuple (cutD xs lo hi))) := nrfl rfl
@[simp] theorem tyN_i : tyN (.int a) = "int" := nrfl rfl
@[simp] theorem tyN_b : tyN (.bool k) = "bool" := nrfl rfl
@[simp] theorem tyN_s : tyN (.str x) = "str" := nrfl rfl
@[simp] theorem tyN_n : tyN .none = "NoneType" := nrfl rfl
@[simp] theorem tyN_l : tyN (.list xs) = "list" := nrfl rfl
@[simp] theorem tyN_t : tyN (.tuple xs) = "tuple" := nrfl rfl
end
@[simp] theorem kit_ii : kitB "int" "int" = some true := by decide +kernel
@[simp] theorem kit_ib : kitB "int" "bool" = some false := by decide +kernel
@[simp] theorem kit_is : kitB "int" "str" = some false := by decide +kernel
@[simp] theorem kit_it : kitB "int" "tuple" = some false := by decide +kernel
@[simp] theorem kit_il : kitB "int" "list" = some false := by decide +kernel
@[simp] theorem kit_bi : kitB "bool" "int" = some true := by decide +kernel
@[simp] theorem kit_bb : kitB "bool" "bool" = some true := by decide +kernel
@[simp] theorem kit_bs : kitB "bool" "str" = some false := by decide +kernel
@[simp] theorem kit_bt : kitB "bool" "tuple" = some false := by decide +kernel
@[simp] theorem kit_bl : kitB "bool" "list" = some false := by decide +kernel
@[simp] theorem kit_si : kitB "str" "int" = some false := by decide +kernel
@[simp] theorem kit_sb : kitB "str" "bool" = some false := by decide +kernel
@[simp] theorem kit_ss : kitB "str" "str" = some true := by decide +kernel
@[simp] theorem kit_st : kitB "str" "tuple" = some false := by decide +kernel
@[simp] theorem kit_sl : kitB "str" "list" = some false := by decide +kernel
@[simp] theorem kit_ni : kitB "NoneType" "int" = some false := by decide +kernel
@[simp] theorem kit_nb : kitB "NoneType" "bool" = some false := by decide +kernel
@[simp] theorem kit_ns : kitB "NoneType" "str" = some false := by decide +kernel
@[simp] theorem kit_nt : kitB "NoneType" "tuple" = some false := by decide +kernel
@[simp] theorem kit_nl : kitB "NoneType" "list" = some false := by decide +kernel
@[simp] theorem kit_ti : kitB "tuple" "int" = some false := by decide +kernel
@[simp] theorem kit_tb : kitB "tuple" "bool" = some false := by decide +kernel
@[simp] theorem kit_ts : kitB "tuple" "str" = some false := by decide +kernel
@[simp] theorem kit_tt : kitB "tuple" "tuple" = some true := by decide +kernel
@[simp] theorem kit_tl : kitB "tuple" "list" = some false := by decide +kernel
@[simp] theorem kit_li : kitB "list" "int" = some false := by decide +kernel
@[simp] theorem kit_lb : kitB "list" "bool" = some false := by decide +kernel
@[simp] theorem kit_ls : kitB "list" "str" = some false := by decide +kernel
@[simp] theorem kit_lt : kitB "list" "tuple" = some false := by decide +kernel
@[simp] theorem kit_ll : kitB "list" "list" = some true := by decide +kernel
@[simp] theorem okR_0 : okR 0 = true := okR_of (by omega) (by omega)
@[simp] theorem okR_1 : okR 1 = true := okR_of (by omega) (by omega)
@[simp] theorem okR_2 : okR 2 = true := okR_of (by omega) (by omega)
@[simp] theorem okR_3 : okR 3 = true := okR_of (by omega) (by omega)
@[simp] theorem okR_4 : okR 4 = true := okR_of (by omega) (by omega)
@[simp] theorem okR_5 : okR 5 = true := okR_of (by omega) (by omega)
@[simp] theorem okR_6 : okR 6 = true := okR_of (by omega) (by omega)
@[simp] theorem okR_7 : okR 7 = true := okR_of (by omega) (by omega)
@[simp] theorem okR_8 : okR 8 = true := okR_of (by omega) (by omega)
@[simp] theorem okR_9 : okR 9 = true := okR_of (by omega) (by omega)
@[simp] theorem okR_10 : okR 10 = true := okR_of (by omega) (by omega)
@[simp] theorem okR_11 : okR 11 = true := okR_of (by omega) (by omega)
@[simp] theorem okR_12 : okR 12 = true := okR_of (by omega) (by omega)
@[simp] theorem okR_13 : okR 13 = true := okR_of (by omega) (by omega)
@[simp] theorem okR_14 : okR 14 = true := okR_of (by omega) (by omega)
@[simp] theorem okR_15 : okR 15 = true := okR_of (by omega) (by omega)
@[simp] theorem okR_16 : okR 16 = true := okR_of (by omega) (by omega)
@[simp] theorem okR_17 : okR 17 = true := okR_of (by omega) (by omega)
@[simp] theorem okR_18 : okR 18 = true := okR_of (by omega) (by omega)
@[simp] theorem okR_19 : okR 19 = true := okR_of (by omega) (by omega)
@[simp] theorem okR_20 : okR 20 = true := okR_of (by omega) (by omega)
@[simp] theorem okR_21 : okR 21 = true := okR_of (by omega) (by omega)
@[simp] theorem okR_22 : okR 22 = true := okR_of (by omega) (by omega)
@[simp] theorem okR_23 : okR 23 = true := okR_of (by omega) (by omega)
@[simp] theorem okR_24 : okR 24 = true := okR_of (by omega) (by omega)
@[simp] theorem okR_25 : okR 25 = true := okR_of (by omega) (by omega)
@[simp] theorem okR_26 : okR 26 = true := okR_of (by omega) (by omega)
@[simp] theorem okR_27 : okR 27 = true := okR_of (by omega) (by omega)
@[simp] theorem okR_28 : okR 28 = true := okR_of (by omega) (by omega)
@[simp] theorem okR_29 : okR 29 = true := okR_of (by omega) (by omega)
@[simp] theorem okR_30 : okR 30 = true := okR_of (by omega) (by omega)
@[simp] theorem okR_31 : okR 31 = true := okR_of (by omega) (by omega)
@[simp] theorem okR_32 : okR 32 = true := okR_of (by omega) (by omega)
@[simp] theorem okR_33 : okR 33 = true := okR_of (by omega) (by omega)
@[simp] theorem okR_34 : okR 34 = true := okR_of (by omega) (by omega)
@[simp] theorem okR_35 : okR 35 = true := okR_of (by omega) (by omega)
@[simp] theorem okR_36 : okR 36 = true := okR_of (by omega) (by omega)
@[simp] theorem okR_37 : okR 37 = true := okR_of (by omega) (by omega)
@[simp] theorem okR_38 : okR 38 = true := okR_of (by omega) (by omega)
@[simp] theorem okR_39 : okR 39 = true := okR_of (by omega) (by omega)
@[simp] theorem okR_40 : okR 40 = true := okR_of (by omega) (by omega)
@[simp] theorem okR_60 : okR 60 = true := okR_of (by omega) (by omega)
@[simp] theorem okR_63 : okR 63 = true := okR_of (by omega) (by omega)
@[simp] theorem okR_64 : okR 64 = true := okR_of (by omega) (by omega)
@[simp] theorem okR_100 : okR 100 = true := okR_of (by omega) (by omega)
@[simp] theorem okR_300 : okR 300 = true := okR_of (by omega) (by omega)
@[simp] theorem okR_1000 : okR 1000 = true := okR_of (by omega) (by omega)
@[simp] theorem okM_0 : okM 0 = true := okM_of (by omega) (by omega)
@[simp] theorem okM_1 : okM 1 = true := okM_of (by omega) (by omega)
@[simp] theorem okM_2 : okM 2 = true := okM_of (by omega) (by omega)
@[simp] theorem okM_3 : okM 3 = true := okM_of (by omega) (by omega)
@[simp] theorem okM_4 : okM 4 = true := okM_of (by omega) (by omega)
@[simp] theorem okM_5 : okM 5 = true := okM_of (by omega) (by omega)
@[simp] theorem okM_6 : okM 6 = true := okM_of (by omega) (by omega)
@[simp] theorem okM_7 : okM 7 = true := okM_of (by omega) (by omega)
@[simp] theorem okM_8 : okM 8 = true := okM_of (by omega) (by omega)
@[simp] theorem okM_9 : okM 9 = true := okM_of (by omega) (by omega)
@[simp] theorem okM_10 : okM 10 = true := okM_of (by omega) (by omega)
@[simp] theorem okM_11 : okM 11 = true := okM_of (by omega) (by omega)
@[simp] theorem okM_12 : okM 12 = true := okM_of (by omega) (by omega)
@[simp] theorem okM_13 : okM 13 = true := okM_of (by omega) (by omega)
@[simp] theorem okM_14 : okM 14 = true := okM_of (by omega) (by omega)
@[simp] theorem okM_15 : okM 15 = true := okM_of (by omega) (by omega)
@[simp] theorem okM_16 : okM 16 = true := okM_of (by omega) (by omega)
@[simp] theorem okM_17 : okM 17 = true := okM_of (by omega) (by omega)
@[simp] theorem okM_18 : okM 18 = true := okM_of (by omega) (by omega)
@[simp] theorem okM_19 : okM 19 = true := okM_of (by omega) (by omega)
@[simp] theorem okM_20 : okM 20 = true := okM_of (by omega) (by omega)
@[simp] theorem okM_21 : okM 21 = true := okM_of (by omega) (by omega)
@[simp] theorem okM_22 : okM 22 = true := okM_of (by omega) (by omega)
@[simp] theorem okM_23 : okM 23 = true := okM_of (by omega) (by omega)
@[simp] theorem okM_24 : okM 24 = true := okM_of (by omega) (by omega)
@[simp] theorem okM_25 : okM 25 = true := okM_of (by omega) (by omega)
@[simp] theorem okM_26 : okM 26 = true := okM_of (by omega) (by omega)
@[simp] theorem okM_27 : okM 27 = true := okM_of (by omega) (by omega)
@[simp] theorem okM_28 : okM 28 = true := okM_of (by omega) (by omega)
@[simp] theorem okM_29 : okM 29 = true := okM_of (by omega) (by omega)
@[simp] theorem okM_30 : okM 30 = true := okM_of (by omega) (by omega)
@[simp] theorem okM_31 : okM 31 = true := okM_of (by omega) (by omega)
@[simp] theorem okM_32 : okM 32 = true := okM_of (by omega) (by omega)
@[simp] theorem okM_33 : okM 33 = true := okM_of (by omega) (by omega)
@[simp] theorem okM_34 : okM 34 = true := okM_of (by omega) (by omega)
@[simp] theorem okM_35 : okM 35 = true := okM_of (by omega) (by omega)
@[simp] theorem okM_36 : okM 36 = true := okM_of (by omega) (by omega)
@[simp] theorem okM_37 : okM 37 = true := okM_of (by omega) (by omega)
@[simp] theorem okM_38 : okM 38 = true := okM_of (by omega) (by omega)
@[simp] theorem okM_39 : okM 39 = true := okM_of (by omega) (by omega)
@[simp] theorem okM_40 : okM 40 = true := okM_of (by omega) (by omega)
@[simp] theorem okM_100 : okM 100 = true := okM_of (by omega) (by omega)
@[simp] theorem okM_1000 : okM 1000 = true := okM_of (by omega) (by omega)
@[simp] theorem okM_48271 : okM 48271 = true := okM_of (by omega) (by omega)
@[simp] theorem okM_69621 : okM 69621 = true := okM_of (by omega) (by omega)
@[simp] theorem okM_104729 : okM 104729 = true := okM_of (by omega) (by omega)
@[simp] theorem okM_7919 : okM 7919 = true := okM_of (by omega) (by omega)
@[simp] theorem okM_30103 : okM 30103 = true := okM_of (by omega) (by omega)
@[simp] theorem okM_128 : okM 128 = true := okM_of (by omega) (by omega)
@[simp] theorem okM_977 : okM 977 = true := okM_of (by omega) (by omega)
@[simp] theorem okM_97 : okM 97 = true := okM_of (by omega) (by omega)
@[simp] theorem okM_200 : okM 200 = true := okM_of (by omega) (by omega)
@[simp] theorem okM_295 : okM 295 = true := okM_of (by omega) (by omega)
@[simp] theorem okM_296 : okM 296 = true := okM_of (by omega) (by omega)
@[simp] theorem okM_1000000 : okM 1000000 = true := okM_of (by omega) (by omega)
theorem line16 : (sizeLine : Nat) = 16777216 := sizeLine_eq

/-! ### loops -/
theorem forF_inv {k : D → En → R En} {b : En → R Fl} (Inv : Nat → En → Prop) : ∀ (xs : List D) (ρ : En), Inv 0 ρ → (∀ i x ρ, xs[i]? = some x → Inv i ρ → ∃ ρ1 ρ2, k x ρ = .ok ρ1 ∧ (b ρ1 = .ok (.nx ρ2) ∨ b ρ1 = .ok (.ct ρ2)) ∧ Inv (i + 1) ρ2) → ∃ ρ', forF k b xs ρ = .ok (.nx ρ') ∧ Inv xs.length ρ' := by
  intro xs
  suffices h : ∀ (ys : List D) (i : Nat) (ρ : En), ys = xs.drop i → i ≤ xs.length → Inv i ρ → (∀ i x ρ, xs[i]? = some x → Inv i ρ → ∃ ρ1 ρ2, k x ρ = .ok ρ1 ∧ (b ρ1 = .ok (.nx ρ2) ∨ b ρ1 = .ok (.ct ρ2)) ∧ Inv (i + 1) ρ2) → ∃ ρ', forF k b ys ρ = .ok (.nx ρ') ∧ Inv xs.length ρ' by
    intro ρ h0 hs
    exact h xs 0 ρ (by simp) (Nat.zero_le _) h0 hs
  intro ys
  induction ys with
  | nil =>
    intro i ρ e hi h0 hs
    have : xs.length ≤ i := by
      have := congrArg List.length e
      simp at this; omega
    have e2 : i = xs.length := by omega
    subst e2
    exact ⟨ρ, rfl, h0⟩
  | cons y ys ih =>
    intro i ρ e hi h0 hs
    have hlt : i < xs.length := by
      have := congrArg List.length e
      simp at this; omega
    rw [List.drop_eq_getElem_cons hlt] at e
    injection e with e1 e2
    obtain ⟨ρ1, ρ2, h1, h2, h3⟩ := hs i y ρ (by rw [e1]; exact List.getElem?_eq_getElem hlt) h0
    obtain ⟨ρ', h4, h5⟩ := ih (i + 1) ρ2 e2 hlt h3 hs
    refine ⟨ρ', ?_, h5⟩
    unfold forF
    simp only [h1]
    rcases h2 with h2 | h2
    · rw [h2]; exact h4
    · rw [h2]; exact h4
/-- a loop whose every turn goes through, by a typed state -/
theorem forF_fold {S : Type} {k : D → En → R En} {b : En → R Fl} (enc : S → En) (stp : S → D → S) : ∀ (xs : List D) (s : S), (∀ s x, x ∈ xs → ∃ ρ1, k x (enc s) = .ok ρ1 ∧ b ρ1 = .ok (.nx (enc (stp s x)))) → forF k b xs (enc s) = .ok (.nx (enc (xs.foldl stp s)))
  | [], s, _ => rfl
  | x :: xs, s, h => by
    obtain ⟨ρ1, h1, h2⟩ := h s x List.mem_cons_self
    unfold forF
    simp only [h1, h2, ok_bind, List.foldl_cons]
    exact forF_fold enc stp xs _ fun s x hx => h s x (List.mem_cons_of_mem _ hx)
theorem lcF_map {k : D → En → R En} {t : En → R Bool} {e : En → R SV} {ρ0 : En} (p : D → Bool) (g : D → D) : ∀ (xs : List D), (∀ x, x ∈ xs → ∃ ρ1, k x ρ0 = .ok ρ1 ∧ t ρ1 = .ok (p x) ∧ (p x = true → ∃ r, e ρ1 = .ok r ∧ datS r = .ok (g x))) → lcF k t e ρ0 xs = .ok ((xs.filter p).map g)
  | [], _ => rfl
  | x :: xs, h => by
    obtain ⟨ρ1, h1, h2, h3⟩ := h x List.mem_cons_self
    have ih := lcF_map (k := k) (t := t) (e := e) (ρ0 := ρ0) p g xs fun x hx => h x (List.mem_cons_of_mem _ hx)
    unfold lcF
    simp only [h1, h2, ok_bind]
    cases hp : p x with
    | false =>
      rw [List.filter_cons_of_neg (by simp [hp])]
      simpa using ih
    | true =>
      obtain ⟨r, h4, h5⟩ := h3 hp
      rw [List.filter_cons_of_pos hp]
      simp [h4, h5, ih]
@[simp] theorem rng_len (lo hi : Int) : (rng lo hi).length = (hi - lo).toNat := by unfold rng; simp
theorem rng_at {lo hi : Int} {i : Nat} {x : D} (h : (rng lo hi)[i]? = some x) : x = .int (lo + (i : Nat)) ∧ i < (hi - lo).toNat := by
  unfold rng at h
  rw [List.getElem?_map] at h
  cases e : (List.range (hi - lo).toNat)[i]? with
  | none => rw [e] at h; cases h
  | some j =>
    rw [e] at h
    obtain ⟨h1, h2⟩ := List.getElem?_eq_some_iff.mp e
    rw [List.length_range] at h1
    rw [List.getElem_range] at h2
    subst h2
    cases h
    exact ⟨rfl, h1⟩
theorem atI_of {α : Type} {xs : List α} {i : Int} (h0 : 0 ≤ i) (h1 : i < xs.length) : atI xs i = some (xs[i.toNat]'(by omega)) := by
  have q : atI xs ((i.toNat : Nat) : Int) = some (xs[i.toNat]'(by omega)) := atI_nat (List.getElem?_eq_getElem _)
  rw [Int.toNat_of_nonneg h0] at q
  exact q

theorem atI_cast {α : Type} (xs : List α) (n : Nat) : atI xs (n : Int) = xs[n]? := by
  by_cases h : n < xs.length
  · rw [List.getElem?_eq_getElem h]; exact atI_nat (List.getElem?_eq_getElem h)
  · rw [List.getElem?_eq_none (by omega)]
    unfold atI ixN
    rw [if_pos (by omega), if_neg (by omega)] <;> rfl
@[simp] theorem atI_0 {α : Type} (xs : List α) : atI xs 0 = xs[0]? := atI_cast xs 0
@[simp] theorem atI_1 {α : Type} (xs : List α) : atI xs 1 = xs[1]? := atI_cast xs 1
@[simp] theorem atI_2 {α : Type} (xs : List α) : atI xs 2 = xs[2]? := atI_cast xs 2
@[simp] theorem atI_3 {α : Type} (xs : List α) : atI xs 3 = xs[3]? := atI_cast xs 3
@[simp] theorem atI_4 {α : Type} (xs : List α) : atI xs 4 = xs[4]? := atI_cast xs 4
@[simp] theorem atI_5 {α : Type} (xs : List α) : atI xs 5 = xs[5]? := atI_cast xs 5
@[simp] theorem atI_6 {α : Type} (xs : List α) : atI xs 6 = xs[6]? := atI_cast xs 6
@[simp] theorem atI_7 {α : Type} (xs : List α) : atI xs 7 = xs[7]? := atI_cast xs 7
@[simp] theorem atI_8 {α : Type} (xs : List α) : atI xs 8 = xs[8]? := atI_cast xs 8
@[simp] theorem atI_9 {α : Type} (xs : List α) : atI xs 9 = xs[9]? := atI_cast xs 9
@[simp] theorem atI_10 {α : Type} (xs : List α) : atI xs 10 = xs[10]? := atI_cast xs 10
@[simp] theorem atI_11 {α : Type} (xs : List α) : atI xs 11 = xs[11]? := atI_cast xs 11
@[simp] theorem atI_12 {α : Type} (xs : List α) : atI xs 12 = xs[12]? := atI_cast xs 12
@[simp] theorem atI_13 {α : Type} (xs : List α) : atI xs 13 = xs[13]? := atI_cast xs 13
@[simp] theorem atI_14 {α : Type} (xs : List α) : atI xs 14 = xs[14]? := atI_cast xs 14
@[simp] theorem atI_15 {α : Type} (xs : List α) : atI xs 15 = xs[15]? := atI_cast xs 15
@[simp] theorem atI_16 {α : Type} (xs : List α) : atI xs 16 = xs[16]? := atI_cast xs 16
@[simp] theorem atI_17 {α : Type} (xs : List α) : atI xs 17 = xs[17]? := atI_cast xs 17
@[simp] theorem atI_18 {α : Type} (xs : List α) : atI xs 18 = xs[18]? := atI_cast xs 18
@[simp] theorem atI_19 {α : Type} (xs : List α) : atI xs 19 = xs[19]? := atI_cast xs 19
@[simp] theorem atI_20 {α : Type} (xs : List α) : atI xs 20 = xs[20]? := atI_cast xs 20
@[simp] theorem atI_21 {α : Type} (xs : List α) : atI xs 21 = xs[21]? := atI_cast xs 21
@[simp] theorem atI_22 {α : Type} (xs : List α) : atI xs 22 = xs[22]? := atI_cast xs 22
@[simp] theorem atI_23 {α : Type} (xs : List α) : atI xs 23 = xs[23]? := atI_cast xs 23
@[simp] theorem atI_24 {α : Type} (xs : List α) : atI xs 24 = xs[24]? := atI_cast xs 24
@[simp] theorem atI_25 {α : Type} (xs : List α) : atI xs 25 = xs[25]? := atI_cast xs 25
@[simp] theorem atI_26 {α : Type} (xs : List α) : atI xs 26 = xs[26]? := atI_cast xs 26
@[simp] theorem atI_27 {α : Type} (xs : List α) : atI xs 27 = xs[27]? := atI_cast xs 27
@[simp] theorem atI_28 {α : Type} (xs : List α) : atI xs 28 = xs[28]? := atI_cast xs 28
@[simp] theorem atI_29 {α : Type} (xs : List α) : atI xs 29 = xs[29]? := atI_cast xs 29
@[simp] theorem atI_30 {α : Type} (xs : List α) : atI xs 30 = xs[30]? := atI_cast xs 30
@[simp] theorem atI_31 {α : Type} (xs : List α) : atI xs 31 = xs[31]? := atI_cast xs 31
@[simp] theorem atI_32 {α : Type} (xs : List α) : atI xs 32 = xs[32]? := atI_cast xs 32
@[simp] theorem atI_33 {α : Type} (xs : List α) : atI xs 33 = xs[33]? := atI_cast xs 33
@[simp] theorem atI_34 {α : Type} (xs : List α) : atI xs 34 = xs[34]? := atI_cast xs 34
@[simp] theorem atI_35 {α : Type} (xs : List α) : atI xs 35 = xs[35]? := atI_cast xs 35
@[simp] theorem atI_36 {α : Type} (xs : List α) : atI xs 36 = xs[36]? := atI_cast xs 36
@[simp] theorem atI_37 {α : Type} (xs : List α) : atI xs 37 = xs[37]? := atI_cast xs 37
@[simp] theorem atI_38 {α : Type} (xs : List α) : atI xs 38 = xs[38]? := atI_cast xs 38
@[simp] theorem atI_39 {α : Type} (xs : List α) : atI xs 39 = xs[39]? := atI_cast xs 39
@[simp] theorem atI_40 {α : Type} (xs : List α) : atI xs 40 = xs[40]? := atI_cast xs 40
/-! ### drawn numbers -/
def drawsB : En → R Fl :=
    (seqS (asgS 2 (dispL nilA))
    (seqS (asgS 3 (callB intS (conB (peek 0) nilB)))
    (seqS (ifS (asT (bin geS (peek 3) (bin powS (kon (.int 10)) (kon (.int 18))))) (forS (rngD1 (conB (peek 1) nilB)) (setD 4) (kill [4] (ifS (asT (bin gtS (peek 3) (kon (.int 0)))) (seqS (appS 2 (bin modS (callB intS (conB (peek 3) nilB)) (kon (.int 1000))))
    (asgS 3 (bin fdivS (peek 3) (kon (.int 1000))))) skip))) skip)
    (seqS (asgS 5 (bin modS (callB intS (conB (bin addS (bin mulA (callB intS (conB (peek 0) nilB)) (kon (.int 48271))) (kon (.int 11))) nilB)) (kon (.int 2147483647))))
    (seqS (forS (rngD1 (conB (peek 1) nilB)) (setD 4) (kill [4] (seqS (asgS 5 (bin modS (callB intS (conB (bin addS (bin addS (bin mulA (peek 5) (kon (.int 48271))) (bin mulA (peek 4) (kon (.int 69621)))) (kon (.int 7))) nilB)) (kon (.int 2147483647))))
    (ifS (asT (bin ltS (callB lenS (conB (peek 2) nilB)) (peek 1))) (appS 2 (bin modS (callB intS (conB (bin modS (callB intS (conB (bin addS (bin mulA (peek 5) (kon (.int 69621))) (kon (.int 5))) nilB)) (kon (.int 2147483629))) nilB)) (kon (.int 1000)))) skip))))
    (retV 2))))))
def drawsF : List D → R SV := runB 2 6 drawsB
def Small (ns : List Int) : Prop := ∀ x ∈ ns, 0 ≤ x ∧ x < 1000
theorem Small.app {ns : List Int} (h : Small ns) {x : Int} (h0 : 0 ≤ x) (h1 : x < 1000) : Small (ns ++ [x]) := fun y hy => by
  rcases List.mem_append.mp hy with z | z
  · exact h y z
  · simp at z; subst z; exact ⟨h0, h1⟩
def drA : En → R Fl := kill [4] (ifS (asT (bin gtS (peek 3) (kon (.int 0)))) (seqS (appS 2 (bin modS (callB intS (conB (peek 3) nilB)) (kon (.int 1000))))
    (asgS 3 (bin fdivS (peek 3) (kon (.int 1000))))) skip)
def drB : En → R Fl := kill [4] (seqS (asgS 5 (bin modS (callB intS (conB (bin addS (bin addS (bin mulA (peek 5) (kon (.int 48271))) (bin mulA (peek 4) (kon (.int 69621)))) (kon (.int 7))) nilB)) (kon (.int 2147483647))))
    (ifS (asT (bin ltS (callB lenS (conB (peek 2) nilB)) (peek 1))) (appS 2 (bin modS (callB intS (conB (bin modS (callB intS (conB (bin addS (bin mulA (peek 5) (kon (.int 69621))) (kon (.int 5))) nilB)) (kon (.int 2147483629))) nilB)) (kon (.int 1000)))) skip))
theorem drA_step (c m rest : Int) (rows : List Int) (i : Int) (hlt : rows.length < sizeLine) (hs : Small rows) : ∃ (rows' : List Int) (rest' : Int), drA [some (.d (.int c)), some (.d (.int m)), some (.ol (rows.map PyData.int)), some (.d (.int rest)), some (.d (.int i)), none]
    = .ok (.nx [some (.d (.int c)), some (.d (.int m)), some (.ol (rows'.map PyData.int)), some (.d (.int rest')), none, none]) ∧ rows'.length ≤ rows.length + 1 ∧ Small rows' := by
  unfold drA
  by_cases hr : 0 < rest
  · exact ⟨rows ++ [rest % 1000], rest / 1000, by simp [hr, hlt], by simp, hs.app (by omega) (by omega)⟩
  · exact ⟨rows, rest, by simp [hr], by omega, hs⟩
theorem drB_step (c m rest st : Int) (rows : List Int) (i : Int) (hlt : rows.length < sizeLine) (hs : Small rows) : ∃ (rows' : List Int) (st' : Int), drB [some (.d (.int c)), some (.d (.int m)), some (.ol (rows.map PyData.int)), some (.d (.int rest)), some (.d (.int i)), some (.d (.int st))]
    = .ok (.nx [some (.d (.int c)), some (.d (.int m)), some (.ol (rows'.map PyData.int)), some (.d (.int rest)), none, some (.d (.int st'))]) ∧ ((rows.length : Int) < m → rows'.length = rows.length + 1) ∧ (¬ (rows.length : Int) < m → rows'.length = rows.length) ∧ Small rows' := by
  unfold drB
  generalize hq : (2147483647 : Int) = q
  have q0 : 0 < q := by omega
  generalize hp : (2147483629 : Int) = p
  have p0 : 0 < p := by omega
  by_cases hr : (rows.length : Int) < m
  · exact ⟨rows ++ [((st * 48271 + i * 69621 + 7) % q * 69621 + 5) % p % 1000], (st * 48271 + i * 69621 + 7) % q, by simp [hr, hlt, q0, p0], fun _ => by simp, fun z => absurd hr z, hs.app (by omega) (by omega)⟩
  · exact ⟨rows, (st * 48271 + i * 69621 + 7) % q, by simp [hr, q0], fun z => absurd z hr, fun _ => rfl, hs⟩
theorem draws1 (c m : Int) (h0 : 0 ≤ m) (hm : m ≤ 1000) : ∃ (rows : List Int) (rest : Int), forF (setD 4) drA (rng 0 m) [some (.d (.int c)), some (.d (.int m)), some (.ol []), some (.d (.int c)), none, none]
      = .ok (.nx [some (.d (.int c)), some (.d (.int m)), some (.ol (rows.map PyData.int)), some (.d (.int rest)), none, none]) ∧ rows.length ≤ m.toNat ∧ Small rows := by
  have hz := line16
  obtain ⟨ρ', h1, rows, rest, h2, h3, h4⟩ := forF_inv (k := setD 4) (b := drA) (fun i ρ => ∃ (rows : List Int) (rest : Int), ρ = [some (.d (.int c)), some (.d (.int m)), some (.ol (rows.map PyData.int)), some (.d (.int rest)), none, none] ∧ rows.length ≤ i ∧ Small rows) (rng 0 m) _ ⟨[], c, rfl, by simp, fun _ h => nomatch h⟩ (by
      rintro i x _ hx ⟨rows, rest, rfl, hl, hs⟩
      obtain ⟨rfl, hi⟩ := rng_at hx
      obtain ⟨rows', rest', e, h1, h2⟩ := drA_step c m rest rows (0 + (i : Nat)) (by omega) hs
      exact ⟨_, _, rfl, .inl e, rows', rest', rfl, by omega, h2⟩)
  refine ⟨rows, rest, ?_, by simpa using h3, h4⟩
  rw [← h2]; exact h1
theorem draws2 (c m rest st : Int) (rows : List Int) (h0 : 0 ≤ m) (hm : m ≤ 1000) (hl : rows.length ≤ m.toNat) (hs : Small rows) : ∃ (rows' : List Int) (st' : Int), forF (setD 4) drB (rng 0 m) [some (.d (.int c)), some (.d (.int m)), some (.ol (rows.map PyData.int)), some (.d (.int rest)), none, some (.d (.int st))]
      = .ok (.nx [some (.d (.int c)), some (.d (.int m)), some (.ol (rows'.map PyData.int)), some (.d (.int rest)), none, some (.d (.int st'))]) ∧ rows'.length = m.toNat ∧ Small rows' := by
  have hz := line16
  obtain ⟨ρ', e2, st, rows2, e3, h3, h4, h5⟩ := forF_inv (k := setD 4) (b := drB) (fun i ρ => ∃ (st : Int) (rows : List Int), ρ = [some (.d (.int c)), some (.d (.int m)), some (.ol (rows.map PyData.int)), some (.d (.int rest)), none, some (.d (.int st))] ∧ i ≤ rows.length ∧ rows.length ≤ m.toNat ∧ Small rows) (rng 0 m) _ ⟨st, rows, rfl, Nat.zero_le _, hl, hs⟩ (by
      rintro i x _ hx ⟨st, rows, rfl, h1, h2, hs⟩
      obtain ⟨rfl, hi⟩ := rng_at hx
      obtain ⟨rows', st', e, g1, g2, g3⟩ := drB_step c m rest st rows (0 + (i : Nat)) (by omega) hs
      refine ⟨_, _, rfl, .inl e, st', rows', rfl, ?_⟩
      by_cases hr : (rows.length : Int) < m
      · have := g1 hr; exact ⟨by omega, by omega, g3⟩
      · have := g2 hr; exact ⟨by omega, by omega, g3⟩)
  rw [rng_len] at h3
  refine ⟨rows2, st, ?_, by omega, h5⟩
  rw [← e3]; exact e2
theorem drawsB_eq : drawsB = (seqS (asgS 2 (dispL nilA))
    (seqS (asgS 3 (callB intS (conB (peek 0) nilB)))
    (seqS (ifS (asT (bin geS (peek 3) (bin powS (kon (.int 10)) (kon (.int 18))))) (forS (rngD1 (conB (peek 1) nilB)) (setD 4) drA) skip)
    (seqS (asgS 5 (bin modS (callB intS (conB (bin addS (bin mulA (callB intS (conB (peek 0) nilB)) (kon (.int 48271))) (kon (.int 11))) nilB)) (kon (.int 2147483647))))
    (seqS (forS (rngD1 (conB (peek 1) nilB)) (setD 4) drB)
    (retV 2)))))) := rfl
theorem draws_ok (c : Int) (m : Int) (h0 : 0 ≤ m) (hm : m ≤ 1000) : ∃ ns : List Int, drawsF [.int c, .int m] = .ok (.ol (ns.map PyData.int)) ∧ ns.length = m.toNat ∧ Small ns := by
  have hb : okR m = true := okR_of (by omega) (by omega)
  unfold drawsF runB startE
  rw [drawsB_eq]
  generalize hq : (2147483647 : Int) = q
  have q0 : 0 < q := by omega
  by_cases hc : 1000000000000000000 ≤ c
  · obtain ⟨rows, rest, e1, hl, hs⟩ := draws1 c m h0 hm
    obtain ⟨rows', st', e2, hl2, hs2⟩ := draws2 c m rest ((c * 48271 + 11) % q) rows h0 hm hl hs
    exact ⟨rows', by simp [hc, hb, e1, e2, q0], hl2, hs2⟩
  · obtain ⟨rows', st', e2, hl2, hs2⟩ := draws2 c m c ((c * 48271 + 11) % q) [] h0 hm (Nat.zero_le _) (fun _ h => nomatch h)
    exact ⟨rows', by simp at e2; simp [hc, hb, e2, q0], hl2, hs2⟩
/-- a cell of the script, 0 behind its end -/
def cellB : En → R Fl :=
    (seqS (ifS (asT (bin ltS (peek 1) (callB lenS (conB (peek 0) nilB)))) (retS (callB intS (conB (bin ixS (peek 0) (peek 1)) nilB))) skip)
    (retS (kon (.int 0))))
def cellF : List D → R SV := runB 2 2 cellB
theorem cell_ok (ns : List Int) (k : Int) (hk : 0 ≤ k) : ∃ c : Int, cellF [.list (ns.map PyData.int), .int k] = .ok (.d (.int c)) := by
  unfold cellF runB cellB startE
  by_cases h : k < ns.length
  · refine ⟨ns[k.toNat]'(by omega), ?_⟩
    have e : atI (ns.map PyData.int) k = some (.int (ns[k.toNat]'(by omega))) := by
      rw [atI_of hk (by simpa using h)]; simp
    simp [h, e]
  · exact ⟨0, by simp [h]⟩
end Pl
namespace Pl
open PySem PySem.Spec PyProof.Rows L2
/-! ### lists of ints -/
theorem plain_ints : ∀ ns : List Int, PyData.plainAll (ns.map PyData.int) = true
  | [] => rfl
  | n :: r => by
    show (PyData.plain (.int n) && PyData.plainAll (r.map PyData.int)) = true
    rw [plain_ints r]; rfl
theorem depth_ints : ∀ ns : List Int, PyData.depthAll (ns.map PyData.int) = 0
  | [] => rfl
  | n :: r => by
    show max (PyData.depth (.int n)) (PyData.depthAll (r.map PyData.int)) = 0
    rw [depth_ints r]; rfl
theorem shp_of {d : D} (h1 : PyData.plain d = true) (h2 : PyData.depth d ≤ 60) : shpD d = true := by
  unfold shpD
  rw [h1, decide_eq_true h2]; rfl
theorem shaped_ints (ns : List Int) : shpD (.list (ns.map PyData.int)) = true := by
  refine shp_of (plain_ints ns) ?_
  show PyData.depthAll (ns.map PyData.int) + 1 ≤ 60
  rw [depth_ints]; omega
theorem eqv_int (a b : Int) : PyData.eqv (.int a) (.int b) = (a == b) := by simp [PyData.eqv]
theorem eqvAll_ints : ∀ ns ms : List Int, PyData.eqvAll (ns.map PyData.int) (ms.map PyData.int) = decide (ns = ms)
  | [], [] => by simp [PyData.eqvAll]
  | [], _ :: _ => by simp [PyData.eqvAll]
  | _ :: _, [] => by simp [PyData.eqvAll]
  | n :: r, m :: q => by
    show (PyData.eqvAll (.int n :: r.map PyData.int) (.int m :: q.map PyData.int)) = _
    rw [PyData.eqvAll, eqvAll_ints r q, eqv_int]
    by_cases h : n = m <;> by_cases h2 : r = q <;> simp [h, h2]
theorem eqv_ints (ns ms : List Int) : PyData.eqv (.list (ns.map PyData.int)) (.list (ms.map PyData.int)) = decide (ns = ms) := by
  rw [PyData.eqv]; exact eqvAll_ints ns ms
theorem eqS_ints (neg : Bool) (ns ms : List Int) : eqS neg (.ol (ns.map PyData.int)) (.ol (ms.map PyData.int)) = .ok (.d (.bool (if neg then !decide (ns = ms) else decide (ns = ms)))) := by
  show eqG neg _ _ = _
  unfold eqG
  simp [shaped_ints, eqv_ints]
/-- the ints from a on, before b -/
def irng (a b : Int) : List Int := (List.range (b - a).toNat).map fun k => a + (k : Nat)
theorem rng_irng (a b : Int) : rng a b = (irng a b).map PyData.int := by unfold rng irng; rw [List.map_map]; rfl
theorem irng_nil {a b : Int} (h : b ≤ a) : irng a b = [] := by
  unfold irng
  rw [show (b - a).toNat = 0 by omega]; rfl
theorem irng_cons {a b : Int} (h : a < b) : irng a b = a :: irng (a + 1) b := by
  unfold irng
  rw [show (b - a).toNat = (b - (a + 1)).toNat + 1 by omega, List.range_succ_eq_map]
  simp only [List.map_cons, List.map_map]
  congr 1
  · omega
  · apply List.map_congr_left
    intro k _
    show a + ((k + 1 : Nat) : Int) = a + 1 + (k : Nat)
    omega
theorem irng_mem {a b x : Int} (h : x ∈ irng a b) : a ≤ x ∧ x < b := by
  unfold irng at h
  obtain ⟨k, hk, rfl⟩ := List.mem_map.mp h
  have := List.mem_range.mp hk
  omega
theorem irng_len (a b : Int) : (irng a b).length = (b - a).toNat := by unfold irng; simp
theorem irng_skip (p : Int → Bool) {a a' b : Int} (h : a ≤ a') (hn : ∀ x, a ≤ x → x < a' → p x = false) : (irng a b).filter p = (irng a' b).filter p := by
  generalize hk : (a' - a).toNat = k
  induction k generalizing a with
  | zero => rw [show a = a' by omega]
  | succ k ih =>
    by_cases hb : a < b
    · rw [irng_cons hb, List.filter_cons_of_neg (by rw [hn a (Int.le_refl _) (by omega)]; exact Bool.false_ne_true)]
      exact ih (by omega) (fun x h1 h2 => hn x (by omega) h2) (by omega)
    · rw [irng_nil (by omega), irng_nil (by omega)]
end Pl
namespace Pl
open PySem PySem.Spec PyProof.Rows L2
/-! ### slices by written places, == of equal data -/
theorem cutD_from {α : Type} (xs : List α) (k : Nat) : cutD xs (some (k : Int)) none = xs.drop k := by
  unfold cutD
  rw [HT.sIx_nat, HT.sIx_none]
  rcases Nat.le_total k xs.length with h | h
  · rw [Nat.min_eq_left h, ← List.length_drop, List.take_length]
  · rw [Nat.min_eq_right h, Nat.sub_self, List.take_zero, List.drop_of_length_le h]
theorem cutD_to {α : Type} (xs : List α) (k : Nat) : cutD xs none (some (k : Int)) = xs.take k := by
  unfold cutD
  rw [HT.sIx_nat, HT.sIx_none, List.drop_zero, Nat.sub_zero]
  rcases Nat.le_total k xs.length with h | h
  · rw [Nat.min_eq_left h]
  · rw [Nat.min_eq_right h, List.take_length, List.take_of_length_le h]
theorem cutD_mid {α : Type} (xs : List α) (j k : Nat) : cutD xs (some (j : Int)) (some (k : Int)) = (xs.drop j).take (k - j) := by
  unfold cutD
  rw [HT.sIx_nat, HT.sIx_nat]
  rcases Nat.le_total j xs.length with h | h
  · rw [Nat.min_eq_left h]
    rcases Nat.le_total k xs.length with h2 | h2
    · rw [Nat.min_eq_left h2]
    · rw [Nat.min_eq_right h2, ← List.length_drop, List.take_length, List.take_of_length_le (by rw [List.length_drop]; omega)]
  · rw [Nat.min_eq_right h, List.drop_of_length_le h, List.drop_of_length_le (Nat.le_refl _)]; simp
@[simp] theorem cutD_1n {α : Type} (xs : List α) : cutD xs (some 1) none = xs.drop 1 := cutD_from xs 1
@[simp] theorem cutD_2n {α : Type} (xs : List α) : cutD xs (some 2) none = xs.drop 2 := cutD_from xs 2
@[simp] theorem cutD_3n {α : Type} (xs : List α) : cutD xs (some 3) none = xs.drop 3 := cutD_from xs 3
@[simp] theorem cutD_4n {α : Type} (xs : List α) : cutD xs (some 4) none = xs.drop 4 := cutD_from xs 4
@[simp] theorem cutD_6n {α : Type} (xs : List α) : cutD xs (some 6) none = xs.drop 6 := cutD_from xs 6
@[simp] theorem cutD_n2 {α : Type} (xs : List α) : cutD xs none (some 2) = xs.take 2 := cutD_to xs 2
@[simp] theorem cutD_5n {α : Type} (xs : List α) : cutD xs (some 5) none = xs.drop 5 := cutD_from xs 5
@[simp] theorem cutD_8n {α : Type} (xs : List α) : cutD xs (some 8) none = xs.drop 8 := cutD_from xs 8
@[simp] theorem cutD_nn {α : Type} (xs : List α) : cutD xs none none = xs := by unfold cutD; rw [HT.sIx_none, HT.sIx_none]; simp
theorem eqG_same (neg : Bool) {a b : SV} {x : D} (ha : datS a = .ok x) (hb : datS b = .ok x) (h : shpD x = true) : eqG neg a b = .ok (.d (.bool (!neg))) := by
  unfold eqG
  rw [ha, hb]
  simp only [ok_bind, h, and_self, if_true]
  rw [PySem.SeqAt.eqv_refl_plain x (shpD_of h).1]
  cases neg <;> rfl
theorem eqS_same (neg : Bool) {x : D} (h : shpD x = true) : eqS neg (.d x) (.d x) = .ok (.d (.bool (!neg))) := by
  cases x with
  | none => cases neg <;> rfl
  | bool b => simp
  | int i => simp
  | str s => simp
  | list xs => exact eqG_same neg rfl rfl h
  | tuple xs => exact eqG_same neg rfl rfl h
  | dict xs => exact eqG_same neg rfl rfl h
theorem eqS_sameL (neg : Bool) {xs : List D} (h : shpD (.list xs) = true) : eqS neg (.ol xs) (.ol xs) = .ok (.d (.bool (!neg))) := eqG_same neg rfl rfl h
theorem ints_get {ns : List Int} {i : Nat} {x : D} (h : (ns.map PyData.int)[i]? = some x) : ∃ n, ns[i]? = some n ∧ x = .int n := by
  rw [List.getElem?_map] at h
  cases e : ns[i]? with
  | none => rw [e] at h; cases h
  | some n => rw [e] at h; cases h; exact ⟨n, rfl, rfl⟩
theorem two_of {ds : List Int} (h : ds.length = 2) : ∃ a b, ds = [a, b] := by
  match ds, h with
  | [a, b], _ => exact ⟨a, b, rfl⟩
end Pl
namespace Pl
open PySem PySem.Spec PyProof.Rows L2
/-! ### data of bounded depth and size -/
def wfD : Nat → D → Bool
  | 0, _ => false
  | _ + 1, .none => true
  | _ + 1, .bool _ => true
  | _ + 1, .int _ => true
  | _ + 1, .str _ => true
  | n + 1, .list xs => decide (xs.length < 1000000) && xs.all (wfD n)
  | n + 1, .tuple xs => decide (xs.length < 1000000) && xs.all (wfD n)
  | _ + 1, .dict _ => false
theorem wfD_up : ∀ {n m : Nat} {x : D}, n ≤ m → wfD n x = true → wfD m x = true
  | 0, _, _, _, h => by cases h
  | n + 1, 0, _, hn, _ => by omega
  | n + 1, m + 1, x, hn, h => by
    cases x with
    | list xs =>
      simp only [wfD, Bool.and_eq_true, List.all_eq_true] at h ⊢
      exact ⟨h.1, fun y hy => wfD_up (by omega) (h.2 y hy)⟩
    | tuple xs =>
      simp only [wfD, Bool.and_eq_true, List.all_eq_true] at h ⊢
      exact ⟨h.1, fun y hy => wfD_up (by omega) (h.2 y hy)⟩
    | dict xs => cases h
    | _ => rfl
/-! ### sorted ints -/
theorem alike_ints : ∀ ns : List Int, allAlike (ns.map PyData.int) = true := by
  intro ns
  unfold allAlike
  simp [List.all_eq_true, PySem.W.alike]
theorem sortable_ints (ns : List Int) : sortable (ns.map PyData.int) = true := by
  unfold sortable
  have : (ns.map PyData.int).all noTup = true := by simp [List.all_eq_true, noTup]
  rw [this, Bool.or_true]
def isort (ns : List Int) : List Int := ns.mergeSort fun a b => decide (a ≤ b)
theorem isort_perm (ns : List Int) : (isort ns).Perm ns := List.mergeSort_perm ns _
theorem isort_sorted (ns : List Int) : (isort ns).Pairwise (· ≤ ·) := by
  have h := List.pairwise_mergeSort (le := fun a b : Int => decide (a ≤ b)) (fun a b c h1 h2 => by simp at *; omega) (fun a b => by simp; omega) ns
  exact h.imp fun h => by simpa using h
theorem sortD_ints (ns : List Int) : sortD (ns.map PyData.int) = (isort ns).map PyData.int := by
  unfold sortD isort
  refine (List.map_mergeSort (f := PyData.int) (s := PySem.W.dataLe false id) (fun a _ b _ => ?_)).symm
  rw [PySem.W.dataLe_eq]
  show decide (a ≤ b) = !PySem.W.dataLt (.int b) (.int a)
  rw [PySem.W.dataLt_int, Bool.eq_iff_iff]
  simp
theorem sortedS_ints (ns : List Int) (h : ns.length < 1000000) : sortedS [.ol (ns.map PyData.int)] = .ok (.ol ((isort ns).map PyData.int)) := by
  have hz := line16
  unfold sortedS
  have hd : ((ns.map PyData.int).all fun d => decide (d.depth ≤ 60)) = true := by simp [List.all_eq_true, PyData.depth]
  simp only [datL]
  rw [if_pos ⟨alike_ints ns, sortable_ints ns, hd, by rw [List.length_map]; omega⟩, sortD_ints]
/-- the first one that passes -/
theorem find_asc (c : Int → Bool) (hi : Int) : ∀ (k : Nat) (lo : Int) (up : List Int), (hi - lo).toNat = k → up.Pairwise (· < ·) → (∀ x ∈ up, lo ≤ x ∧ x < hi) → (irng lo hi).find? (fun x => decide (x ∈ up) && c x) = up.find? c
  | 0, lo, up, hk, hs, hb => by
    rw [irng_nil (by omega)]
    cases up with
    | nil => rfl
    | cons x r => have := hb x List.mem_cons_self; omega
  | k + 1, lo, up, hk, hs, hb => by
    rw [irng_cons (by omega)]
    by_cases hm : lo ∈ up
    · cases up with
      | nil => cases hm
      | cons x r =>
        have hx : x = lo := by
          rcases List.mem_cons.mp hm with e | e
          · exact e.symm
          · have h1 := (List.pairwise_cons.mp hs).1 lo e
            have h2 := (hb x List.mem_cons_self).1
            omega
        subst hx
        rw [List.find?_cons, List.find?_cons]
        simp only [List.mem_cons_self, decide_true, Bool.true_and]
        cases hc : c x with
        | true => rfl
        | false =>
          have ih := find_asc c hi k (x + 1) r (by omega) (List.pairwise_cons.mp hs).2 (fun y hy => ⟨by have := (List.pairwise_cons.mp hs).1 y hy; omega, (hb y (List.mem_cons_of_mem _ hy)).2⟩)
          rw [← ih]
          have e : ∀ y ∈ irng (x + 1) hi, (decide (y ∈ x :: r) && c y) = (decide (y ∈ r) && c y) := fun y hy => by
            have := (irng_mem hy).1
            have hne : y ≠ x := by omega
            simp [hne]
          clear ih hs hb hm hk hc
          show List.find? _ (irng (x + 1) hi) = _
          revert e
          generalize irng (x + 1) hi = L
          intro e
          induction L with
          | nil => rfl
          | cons a L ih =>
            rw [List.find?_cons, List.find?_cons, e a List.mem_cons_self]
            rw [ih fun y hy => e y (List.mem_cons_of_mem _ hy)]
    · rw [List.find?_cons]
      simp only [hm, decide_false, Bool.false_and]
      exact find_asc c hi k (lo + 1) up (by omega) hs fun y hy => ⟨by
        have h1 := (hb y hy).1
        have h2 : y ≠ lo := fun e => hm (e ▸ hy)
        omega, (hb y hy).2⟩
theorem asc_of {ns : List Int} (h : ns.Pairwise (· ≤ ·)) (hn : ns.Nodup) : ns.Pairwise (· < ·) := by
  induction ns with
  | nil => exact .nil
  | cons x r ih =>
    obtain ⟨h1, h2⟩ := List.pairwise_cons.mp h
    obtain ⟨n1, n2⟩ := List.nodup_cons.mp hn
    exact List.pairwise_cons.mpr ⟨fun y hy => by have := h1 y hy; have : x ≠ y := fun e => n1 (e ▸ hy); omega, ih h2 n2⟩
theorem nodup_asc {ns : List Int} (h : ns.Pairwise (· < ·)) : ns.Nodup := h.imp fun h e => by omega
theorem irng_asc (a b : Int) : (irng a b).Pairwise (· < ·) := by
  generalize hk : (b - a).toNat = k
  induction k generalizing a with
  | zero => rw [irng_nil (by omega)]; exact .nil
  | succ k ih =>
    rw [irng_cons (by omega)]
    exact List.pairwise_cons.mpr ⟨fun x hx => by have := (irng_mem hx).1; omega, ih (a + 1) (by omega)⟩
/-- x in a list of ints -/
theorem inS_ints (neg : Bool) (x : Int) (ns : List Int) : inS neg (.d (.int x)) (.ol (ns.map PyData.int)) = .ok (.d (.bool (if neg then !decide (x ∈ ns) else decide (x ∈ ns)))) := by
  have e : ((ns.map PyData.int).any fun z => PyData.eqv z (.int x)) = decide (x ∈ ns) := by
    induction ns with
    | nil => rfl
    | cons n r ih =>
      rw [List.map_cons, List.any_cons, ih, eqv_int]
      by_cases h : n = x
      · subst h; simp
      · have h2 : x ≠ n := fun e => h e.symm
        simp [h, h2]
  unfold inS
  simp only
  rw [if_pos ⟨rfl, shaped_ints ns⟩, e]
theorem inS_intsD (neg : Bool) (x : Int) (ns : List Int) : inS neg (.d (.int x)) (.d (.list (ns.map PyData.int))) = .ok (.d (.bool (if neg then !decide (x ∈ ns) else decide (x ∈ ns)))) := inS_ints neg x ns
theorem eqS_intsOD (neg : Bool) (ns ms : List Int) : eqS neg (.ol (ns.map PyData.int)) (.d (.list (ms.map PyData.int))) = .ok (.d (.bool (if neg then !decide (ns = ms) else decide (ns = ms)))) := eqS_ints neg ns ms
theorem eqS_intsDO (neg : Bool) (ns ms : List Int) : eqS neg (.d (.list (ns.map PyData.int))) (.ol (ms.map PyData.int)) = .ok (.d (.bool (if neg then !decide (ns = ms) else decide (ns = ms)))) := eqS_ints neg ns ms
theorem eqS_intsDD (neg : Bool) (ns ms : List Int) : eqS neg (.d (.list (ns.map PyData.int))) (.d (.list (ms.map PyData.int))) = .ok (.d (.bool (if neg then !decide (ns = ms) else decide (ns = ms)))) := eqS_ints neg ns ms
/-! ### bodies, piece by piece -/
theorem seqS_assoc (f g h : En → R Fl) : seqS (seqS f g) h = seqS f (seqS g h) := by
  funext ρ
  simp only [seqS_ap]
  cases f ρ with
  | ok z => cases z <;> rfl
  | ex => rfl
  | bad => rfl
theorem seq_nx {f g : En → R Fl} {ρ ρ1 : En} {z : R Fl} (h : f ρ = .ok (.nx ρ1)) (h2 : g ρ1 = z) : seqS f g ρ = z := by
  rw [seqS_ap, h]; exact h2
theorem seq_rt {f g : En → R Fl} {ρ : En} {r : SV} (h : f ρ = .ok (.rt r)) : seqS f g ρ = .ok (.rt r) := by
  rw [seqS_ap, h]; rfl
theorem asg_nx {i : Nat} {fa : En → R SV} {ρ ρ1 : En} {r : SV} (h : fa ρ = .ok r) (h2 : ρ.set i (some r) = ρ1) (hp : r.npin = true := by rfl) : asgS i fa ρ = .ok (.nx ρ1) := by
  rw [asgS_ap, h, ← h2, ok_bind, if_pos hp]
theorem kill_nx {is : List Nat} {f : En → R Fl} {ρ ρ1 ρ2 : En} (h : f ρ = .ok (.nx ρ1)) (h2 : killE is ρ1 = ρ2) : kill is f ρ = .ok (.nx ρ2) := by
  rw [kill_ap, h, ← h2]; rfl
end Pl
namespace Pl
open PySem PySem.Spec PyProof.Rows L2
/-! ### strings, by their lengths -/
theorem len_app (a b : Str) : (a ++ b).length = a.length + b.length := by
  show (a.cps ++ b.cps).size = _
  rw [Array.size_append]; rfl
theorem cutS_len (z : Str) (lo hi : Option Int) : (cutS z lo hi).length ≤ z.length := by
  show ((z.cps.toList.drop _).take _).toArray.size ≤ z.cps.size
  rw [List.size_toArray, List.length_take, List.length_drop, Array.length_toList]
  omega
theorem slS_s (z : Str) (lo hi : Option Int) (h : z.length ≤ 1000) : slS (.d (.str z)) lo hi = .ok (.d (.str (cutS z lo hi))) := by
  have hz := line16
  show (if z.length ≤ sizeLine then _ else _) = _
  rw [if_pos (by omega)]
theorem ixS_s (z : Str) (i : Int) (h : z.length ≤ 1000) (h0 : 0 ≤ i) (h1 : i < z.length) : ∃ c : Str, ixS (.d (.str z)) (.d (.int i)) = .ok (.d (.str c)) ∧ c.length = 1 := by
  have hz := line16
  have e := atI_of (xs := z.cps.toList) h0 (by show i < (z.cps.toList.length : Nat); rw [show z.cps.toList.length = z.length from rfl]; exact h1)
  refine ⟨⟨#[z.cps.toList[i.toNat]'(by have : z.cps.toList.length = z.length := rfl; omega)]⟩, ?_, rfl⟩
  show (if z.length ≤ sizeLine then _ else _) = _
  rw [if_pos (by omega), e]
theorem addS_s (a b : Str) (h : a.length ≤ 1000) (h2 : b.length ≤ 1000) : addS (.d (.str a)) (.d (.str b)) = .ok (.d (.str (a ++ b))) := by
  have hz := line16
  show (if a.length + b.length ≤ sizeLine then _ else _) = _
  rw [if_pos (by omega)]
/-! ### comprehensions and loops that build -/
theorem lcF_ex {α : Type} (g : α → D) (Q : α → Prop) {k : D → En → R En} {e : En → R SV} {ρ0 : En} : ∀ (xs : List D), (∀ x, x ∈ xs → ∃ ρ1 r y, k x ρ0 = .ok ρ1 ∧ e ρ1 = .ok r ∧ datS r = .ok (g y) ∧ Q y) → ∃ ys : List α, lcF k yesT e ρ0 xs = .ok (ys.map g) ∧ ys.length = xs.length ∧ ∀ y ∈ ys, Q y
  | [], _ => ⟨[], rfl, rfl, fun _ h => nomatch h⟩
  | x :: xs, h => by
    obtain ⟨ρ1, r, y, h1, h2, h3, h4⟩ := h x List.mem_cons_self
    obtain ⟨ys, e1, e2, e3⟩ := lcF_ex g Q (k := k) (e := e) (ρ0 := ρ0) xs fun x hx => h x (List.mem_cons_of_mem _ hx)
    refine ⟨y :: ys, ?_, by simp [e2], fun z hz => ?_⟩
    · unfold lcF
      simp [h1, h2, h3, e1]
    · rcases List.mem_cons.mp hz with rfl | hz
      · exact h4
      · exact e3 z hz
theorem rng_mem {a b : Int} {x : D} (h : x ∈ rng a b) : ∃ i, x = .int i ∧ a ≤ i ∧ i < b := by
  rw [rng_irng] at h
  obtain ⟨i, hi, rfl⟩ := List.mem_map.mp h
  exact ⟨i, rfl, irng_mem hi⟩
/-- an index of written ints -/
theorem atI_ints (ns : List Int) (i : Int) (h0 : 0 ≤ i) (h1 : i < ns.length) : ∃ n, n ∈ ns ∧ atI (ns.map PyData.int) i = some (.int n) := by
  rw [atI_of h0 (by simpa using h1)]
  exact ⟨ns[i.toNat]'(by omega), List.getElem_mem _, by simp⟩
theorem atI_map {α : Type} (g : α → D) (ns : List α) (i : Int) (h0 : 0 ≤ i) (h1 : i < ns.length) : ∃ n, n ∈ ns ∧ atI (ns.map g) i = some (g n) := by
  rw [atI_of h0 (by simpa using h1)]
  exact ⟨ns[i.toNat]'(by omega), List.getElem_mem _, by simp⟩
theorem atI_map' {α : Type} (g : α → D) (ns : List α) (i : Int) (n : α) (h0 : 0 ≤ i) (h : ns[i.toNat]? = some n) : atI (ns.map g) i = some (g n) := by
  have h1 : i.toNat < ns.length := by
    rcases Nat.lt_or_ge i.toNat ns.length with q | q
    · exact q
    · rw [List.getElem?_eq_none q] at h; cases h
  rw [atI_of h0 (by simp; omega)]
  rw [List.getElem?_eq_getElem h1] at h
  injection h with h
  simp [h]
theorem imodN (a b : Int) (h : 0 < b) : 0 ≤ a % b ∧ a % b < b := ⟨Int.emod_nonneg _ (by omega), Int.emod_lt_of_pos _ h⟩
theorem bls_map (bs : List Bool) : bls (bs.map PyData.bool) = some bs := by
  induction bs with
  | nil => rfl
  | cons b r ih => show (bls (r.map PyData.bool)).map _ = _; rw [ih]; rfl
theorem anyS_ol (bs : List Bool) : anyS [.ol (bs.map PyData.bool)] = .ok (.d (.bool (bs.any id))) := by
  show (match bls (bs.map PyData.bool) with | some bs => R.ok (SV.d (.bool (bs.any id))) | none => .bad) = _
  rw [bls_map]
theorem allS_ol (bs : List Bool) : allS [.ol (bs.map PyData.bool)] = .ok (.d (.bool (bs.all id))) := by
  show (match bls (bs.map PyData.bool) with | some bs => R.ok (SV.d (.bool (bs.all id))) | none => .bad) = _
  rw [bls_map]
theorem runB_rt {n m : Nat} {b : En → R Fl} {ds : List D} {r : SV} (h : b (startE m ds) = .ok (.rt r)) (hn : ds.length = n) : runB n m b ds = .ok r := by
  unfold runB
  rw [if_pos hn, h]; rfl
theorem runB_nx {n m : Nat} {b : En → R Fl} {ds : List D} {ρ : En} (h : b (startE m ds) = .ok (.nx ρ)) (hn : ds.length = n) : runB n m b ds = .ok (.d .none) := by
  unfold runB
  rw [if_pos hn, h]; rfl
theorem forS_tup {fa : En → R SV} {k : D → En → R En} {b : En → R Fl} {ρ : En} {xs : List D} {z : R Fl} (h : fa ρ = .ok (.d (.tuple xs))) (h2 : forF k b xs ρ = z) : forS (seqD fa) k b ρ = z := by
  rw [forS_ap, seqD_ap, h]; exact h2
theorem forS_lst {fa : En → R SV} {k : D → En → R En} {b : En → R Fl} {ρ : En} {xs : List D} {z : R Fl} (h : fa ρ = .ok (.d (.list xs))) (h2 : forF k b xs ρ = z) : forS (seqD fa) k b ρ = z := by
  rw [forS_ap, seqD_ap, h]; exact h2
theorem forS_ol {fa : En → R SV} {k : D → En → R En} {b : En → R Fl} {ρ : En} {xs : List D} {z : R Fl} (h : fa ρ = .ok (.ol xs)) (h2 : forF k b xs ρ = z) : forS (seqD fa) k b ρ = z := by
  rw [forS_ap, seqD_ap, h]; exact h2
theorem forS_rng1 {fa : En → R SV} {k : D → En → R En} {b : En → R Fl} {ρ : En} {j : Int} {z : R Fl} (h : fa ρ = .ok (.d (.int j))) (hj : okR j = true) (h2 : forF k b (rng 0 j) ρ = z) : forS (rngD1 (conB fa nilB)) k b ρ = z := by
  rw [forS_ap, rngD1_ap, conB_ap, h]
  simp only [nilB_ap, ok_bind, hj, if_true]; exact h2
theorem forS_rng2 {fa fb : En → R SV} {k : D → En → R En} {b : En → R Fl} {ρ : En} {i j : Int} {z : R Fl} (h : fa ρ = .ok (.d (.int i))) (h' : fb ρ = .ok (.d (.int j))) (hi : okR i = true) (hj : okR j = true) (h2 : forF k b (rng i j) ρ = z) : forS (rngD2 (conB fa (conB fb nilB))) k b ρ = z := by
  rw [forS_ap, rngD2_ap, conB_ap, h, ok_bind, conB_ap, h']
  simp only [nilB_ap, ok_bind, hi, hj, and_self, if_true]; exact h2
theorem eqS_lists (neg : Bool) {a b : SV} {xs ys : List D} (ha : datS a = .ok (.list xs)) (hb : datS b = .ok (.list ys)) : eqS neg a b = eqG neg a b := by
  cases a with
  | d x => cases ha; cases b <;> rfl
  | ol x => cases b <;> rfl
  | _ => cases ha
/-- a computed list is the same as itself -/
theorem eqS_selfL (neg : Bool) {a b : SV} {xs : List D} (ha : datS a = .ok (.list xs)) (hb : datS b = .ok (.list xs)) (h : shpD (.list xs) = true) : eqS neg a b = .ok (.d (.bool (!neg))) := by
  rw [eqS_lists neg ha hb, eqG_same neg ha hb h]
end Pl
namespace Pl
open PySem PySem.Spec PyProof.Rows L2
/-! ### labels and matchers -/
abbrev Lab := List (Str × Str)
def encP (p : Str × Str) : D := .tuple [.str p.1, .str p.2]
def encB (l : Lab) : D := .tuple (l.map encP)
structure Mat where
  nm : Str
  vs : List Str
  inn : Bool
structure Mat.Ok (m : Mat) : Prop where
  vs : m.vs.length ≤ 2
def encMt (m : Mat) : D := .tuple [.str m.nm, .tuple (m.vs.map PyData.str), .bool m.inn]
def valL (l : Lab) (n : Str) : Str := match l.find? fun p => decide (p.1 = n) with
  | some p => p.2
  | none => ""
def matM (m : Mat) (l : Lab) : Bool := decide (decide (valL l m.nm ∈ m.vs) = m.inn)
theorem inS_strs (neg : Bool) (x : Str) (ns : List Str) : inS neg (.d (.str x)) (.d (.tuple (ns.map PyData.str))) = .ok (.d (.bool (if neg then !decide (x ∈ ns) else decide (x ∈ ns)))) := by
  have e : ((ns.map PyData.str).any fun z => PyData.eqv z (.str x)) = decide (x ∈ ns) := by
    induction ns with
    | nil => rfl
    | cons n r ih =>
      rw [List.map_cons, List.any_cons, ih]
      have : PyData.eqv (.str n) (.str x) = decide (n = x) := by simp [PyData.eqv, Bool.beq_eq_decide_eq]
      rw [this]
      by_cases h : n = x
      · subst h; simp
      · have h2 : x ≠ n := fun e => h e.symm
        simp [h, h2]
  have f : (ns.map PyData.str).all flat = true := by
    rw [List.all_eq_true]
    intro d hd
    obtain ⟨s, _, rfl⟩ := List.mem_map.mp hd
    rfl
  unfold inS
  simp only
  rw [if_pos ⟨rfl, f⟩, e]
abbrev eV (l : Lab) (n : Str) (x : Option SV) : En := [some (.d (encB l)), some (.d (.str n)), x]
theorem val_loop {b : En → R Fl} (l : Lab) (n : Str) (hb : b = (kill [2] (ifS (asT (bin (eqS false) (bin ixS (peek 2) (kon (.int 0))) (peek 1))) (retS (bin ixS (peek 2) (kon (.int 1)))) skip))) : ∀ u : Lab, forF (setD 2) b (u.map encP) (eV l n none) = (match u.find? fun p => decide (p.1 = n) with | some p => .ok (.rt (.d (.str p.2))) | none => .ok (.nx (eV l n none)))
  | [] => rfl
  | p :: u => by
    have ih := val_loop l n hb u
    rw [List.map_cons, forF, List.find?_cons]
    have i0 : ixS (.d (encP p)) (.d (.int 0)) = .ok (.d (.str p.1)) := rfl
    have i1 : ixS (.d (encP p)) (.d (.int 1)) = .ok (.d (.str p.2)) := rfl
    by_cases c : p.1 = n
    · have e2 : b [some (.d (encB l)), some (.d (.str n)), some (.d (encP p))] = .ok (.rt (.d (.str p.2))) := by
        subst hb
        simp [i0, i1, c]
      simp only [setD_ap, List.set_cons_succ, List.set_cons_zero, e2, ok_bind, decide_eq_true c]
    · have e2 : b [some (.d (encB l)), some (.d (.str n)), some (.d (encP p))] = .ok (.nx (eV l n none)) := by
        subst hb
        simp [i0, i1, c]
      simp only [setD_ap, List.set_cons_succ, List.set_cons_zero, e2, ok_bind, decide_eq_false c]
      exact ih
theorem val_body {b : En → R Fl} {c : En → R Fl} (l : Lab) (n : Str) (hb : b = (kill [2] (ifS (asT (bin (eqS false) (bin ixS (peek 2) (kon (.int 0))) (peek 1))) (retS (bin ixS (peek 2) (kon (.int 1)))) skip))) (hc : c = (seqS (forS (seqD (getV 0)) (setD 2) b) (retS (kon (.str ""))))) : runB 2 3 c [encB l, .str n] = .ok (.d (.str (valL l n))) := by
  have h := val_loop l n hb l
  have hb : ∀ ρ, ρ = eV l n none → c ρ = .ok (.rt (.d (.str (valL l n)))) := by
    rintro _ rfl
    rw [hc]
    have f := forS_tup (fa := getV 0) (k := setD 2) (b := b) (ρ := eV l n none) rfl h
    unfold valL
    cases hq : l.find? fun p => decide (p.1 = n) with
    | some p => rw [hq] at f; exact seq_rt f
    | none => rw [hq] at f; exact seq_nx f rfl
  exact runB_rt (hb _ rfl) rfl
theorem plain_strs : ∀ ns : List Str, PyData.plainAll (ns.map PyData.str) = true
  | [] => rfl
  | n :: r => by
    show (PyData.plain (.str n) && PyData.plainAll (r.map PyData.str)) = true
    rw [plain_strs r]; rfl
theorem depth_strs : ∀ ns : List Str, PyData.depthAll (ns.map PyData.str) = 0
  | [] => rfl
  | n :: r => by
    show max (PyData.depth (.str n)) (PyData.depthAll (r.map PyData.str)) = 0
    rw [depth_strs r]; rfl
theorem shaped_strs (ns : List Str) : shpD (.list (ns.map PyData.str)) = true := by
  refine shp_of (plain_strs ns) ?_
  show PyData.depthAll (ns.map PyData.str) + 1 ≤ 60
  rw [depth_strs]; omega
theorem inS_strsO (neg : Bool) (x : Str) (ns : List Str) : inS neg (.d (.str x)) (.ol (ns.map PyData.str)) = .ok (.d (.bool (if neg then !decide (x ∈ ns) else decide (x ∈ ns)))) := by
  have e : ((ns.map PyData.str).any fun z => PyData.eqv z (.str x)) = decide (x ∈ ns) := by
    induction ns with
    | nil => rfl
    | cons n r ih =>
      rw [List.map_cons, List.any_cons, ih]
      have : PyData.eqv (.str n) (.str x) = decide (n = x) := by simp [PyData.eqv, Bool.beq_eq_decide_eq]
      rw [this]
      by_cases h : n = x
      · subst h; simp
      · have h2 : x ≠ n := fun e => h e.symm
        simp [h, h2]
  unfold inS
  simp only
  rw [if_pos ⟨rfl, shaped_strs ns⟩, e]
theorem plain_labs : ∀ ns : Lab, PyData.plainAll (ns.map encP) = true
  | [] => rfl
  | n :: r => by
    show (PyData.plain (encP n) && PyData.plainAll (r.map encP)) = true
    rw [plain_labs r]; rfl
theorem depth_labs : ∀ ns : Lab, PyData.depthAll (ns.map encP) ≤ 1
  | [] => Nat.zero_le _
  | n :: r => by
    show max (PyData.depth (encP n)) (PyData.depthAll (r.map encP)) ≤ 1
    have := depth_labs r
    have h : PyData.depth (encP n) = 1 := rfl
    rw [h]; omega
theorem shaped_lab (l : Lab) : shpD (encB l) = true := by
  refine shp_of (plain_labs l) ?_
  show PyData.depthAll (l.map encP) + 1 ≤ 60
  have := depth_labs l
  omega
theorem eqS_lab (neg : Bool) (l m : Lab) : eqS neg (.d (encB l)) (.d (encB m)) = .ok (.d (.bool (if neg then !PyData.eqv (encB l) (encB m) else PyData.eqv (encB l) (encB m)))) := by
  show eqG neg _ _ = _
  unfold eqG
  simp [shaped_lab]
theorem sorted_pairs0 (ps : Lab) (h : ps.length < 1000000) : ∃ qs : Lab, Pl.sortedS [.ol (ps.map encP)] = .ok (.ol (qs.map encP)) ∧ qs.Perm ps ∧ qs = ps.mergeSort fun a b => PySem.W.dataLe false id (encP a) (encP b) := by
  have hz := line16
  refine ⟨ps.mergeSort fun a b => PySem.W.dataLe false id (encP a) (encP b), ?_, List.mergeSort_perm ps _, rfl⟩
  unfold Pl.sortedS
  have h1 : allAlike (ps.map encP) = true := by
    unfold allAlike
    rw [List.all_eq_true]
    intro a ha
    rw [List.all_eq_true]
    intro b hb
    obtain ⟨p, _, rfl⟩ := List.mem_map.mp ha
    obtain ⟨q, _, rfl⟩ := List.mem_map.mp hb
    rfl
  have h2 : sortable (ps.map encP) = true := by
    unfold sortable
    rw [Bool.or_eq_true]
    left
    rw [List.all_eq_true]
    intro a ha
    obtain ⟨p, _, rfl⟩ := List.mem_map.mp ha
    rfl
  have h3 : ((ps.map encP).all fun d => decide (d.depth ≤ 60)) = true := by
    rw [List.all_eq_true]
    intro a ha
    obtain ⟨p, _, rfl⟩ := List.mem_map.mp ha
    rfl
  simp only [datL]
  rw [if_pos ⟨h1, h2, h3, by rw [List.length_map]; omega⟩]
  unfold sortD
  congr 2
  exact (List.map_mergeSort (f := encP) (s := PySem.W.dataLe false id) (fun a _ b _ => rfl)).symm
theorem sorted_pairs (ps : Lab) (h : ps.length < 1000000) : ∃ qs : Lab, Pl.sortedS [.ol (ps.map encP)] = .ok (.ol (qs.map encP)) ∧ qs.Perm ps := let ⟨qs, a, b, _⟩ := sorted_pairs0 ps h; ⟨qs, a, b⟩
/-! ### labels in order -/
theorem str_eq {a b : Str} (h : a.cps.toList = b.cps.toList) : a = b := by
  cases a; cases b; congr 1; exact Array.toList_inj.mp h
theorem str_ne {a b : Str} (h : a ≠ b) : a.cps.toList ≠ b.cps.toList := fun e => h (str_eq e)
def ltS' (a b : Str) : Prop := a.cps.toList < b.cps.toList
theorem ltS'_irr (a : Str) : ¬ ltS' a a := List.lt_irrefl _
theorem ltS'_asy {a b : Str} (h : ltS' a b) : ¬ ltS' b a := List.lt_asymm h
theorem ltS'_ne {a b : Str} (h : ltS' a b) : a ≠ b := fun e => by subst e; exact ltS'_irr _ h
theorem ltS'_tri {a b : Str} (h : ¬ ltS' a b) (h2 : a ≠ b) : ltS' b a := Std.lt_of_le_of_ne (List.not_lt.mp h) fun e => h2 (str_eq e.symm)
/-- labels: strictly ascending by names -/
def Asc (l : Lab) : Prop := l.Pairwise fun p q => ltS' p.1 q.1
theorem le_pair {p q : Str × Str} (h : p.1 ≠ q.1) (hl : PySem.W.dataLe false id (encP p) (encP q) = true) : ltS' p.1 q.1 := by
  have e : PySem.W.dataLe false id (encP p) (encP q) = !PySem.W.dataLt (encP q) (encP p) := rfl
  rw [e] at hl
  unfold encP at hl
  rw [PySem.W.dataLt_pair (by rfl) (by rfl)] at hl
  have e2 : PyData.eqv (.str q.1) (.str p.1) = false := by
    simp [PyData.eqv]; exact fun z => h z.symm
  rw [e2] at hl
  have hn : ¬ (q.1.cps.toList < p.1.cps.toList) := fun z => by
    rw [if_neg (by simp), PySem.W.dataLt_str, decide_eq_true z] at hl; cases hl
  exact Std.lt_of_le_of_ne (List.not_lt.mp hn) (str_ne h)
theorem dle_total (f : D → D) : ∀ a b, (PySem.W.dataLe false f a b || PySem.W.dataLe false f b a) = true := fun a b => by
  rcases (PySem.W.sortLe_total (PyProof.Rows.listOrd PyProof.Rows.itemOrd) false fun d => PySem.W.keyToks (f d)).total a b with h | h
  · rw [Bool.or_eq_true]; exact .inl h
  · rw [Bool.or_eq_true]; exact .inr h
theorem dle_trans (f : D → D) : ∀ a b c, PySem.W.dataLe false f a b = true → PySem.W.dataLe false f b c = true → PySem.W.dataLe false f a c = true :=
  (PySem.W.sortLe_total (PyProof.Rows.listOrd PyProof.Rows.itemOrd) false fun d => PySem.W.keyToks (f d)).trans
theorem asc_sorted (ps : Lab) (nd : (ps.map Prod.fst).Nodup) : Asc (ps.mergeSort fun a b => PySem.W.dataLe false id (encP a) (encP b)) := by
  have h1 := List.pairwise_mergeSort (le := fun a b => PySem.W.dataLe false id (encP a) (encP b)) (fun a b c => dle_trans id _ _ _) (fun a b => dle_total id _ _) ps
  have hp := List.mergeSort_perm ps fun a b => PySem.W.dataLe false id (encP a) (encP b)
  have h2 : ((ps.mergeSort fun a b => PySem.W.dataLe false id (encP a) (encP b)).map Prod.fst).Nodup := (hp.map Prod.fst).nodup_iff.mpr nd
  have h3 : (ps.mergeSort fun a b => PySem.W.dataLe false id (encP a) (encP b)).Pairwise fun p q => p.1 ≠ q.1 := List.pairwise_map.mp h2
  exact (List.Pairwise.and h1 h3).imp fun ⟨a, b⟩ => le_pair b a
theorem sorted_asc (ps : Lab) (h : ps.length < 1000000) (nd : (ps.map Prod.fst).Nodup) : ∃ qs : Lab, Pl.sortedS [.ol (ps.map encP)] = .ok (.ol (qs.map encP)) ∧ qs.Perm ps ∧ Asc qs := by
  obtain ⟨qs, h1, h2, h3⟩ := sorted_pairs0 ps h
  exact ⟨qs, h1, h2, by rw [h3]; exact asc_sorted ps nd⟩
theorem Asc.mem_val {l : Lab} (h : Asc l) {p : Str × Str} (hp : p ∈ l) : valL l p.1 = p.2 := by
  induction l with
  | nil => cases hp
  | cons q r ih =>
    unfold valL
    rw [List.find?_cons]
    rcases List.mem_cons.mp hp with rfl | hp
    · simp
    · have := List.rel_of_pairwise_cons h hp
      have hne : ¬ q.1 = p.1 := ltS'_ne this
      simp only [hne, decide_false]
      exact ih (List.Pairwise.of_cons h) hp
theorem val_mem {l : Lab} {n v : Str} (h : valL l n = v) (hv : v ≠ "") : (n, v) ∈ l := by
  unfold valL at h
  cases e : l.find? (fun p => decide (p.1 = n)) with
  | none => rw [e] at h; exact absurd h.symm hv
  | some p =>
    rw [e] at h
    have h1 := List.mem_of_find?_eq_some e
    have h2 := List.find?_some e
    simp at h2 h
    subst h2; subst h; exact h1
theorem val_filter (l : Lab) (S : Str → Bool) (n : Str) (h : S n = true) : valL (l.filter fun p => S p.1) n = valL l n := by
  unfold valL
  rw [List.find?_filter]
  congr 1
  induction l with
  | nil => rfl
  | cons p r ih =>
    rw [List.find?_cons, List.find?_cons]
    by_cases c : p.1 = n
    · subst c; simp [h]
    · simp [c]; simpa using ih
/-- ascending labels with the same pairs are the same -/
theorem asc_ext {l m : Lab} (hl : Asc l) (hm : Asc m) (h : ∀ p, p ∈ l ↔ p ∈ m) : l = m := by
  induction l generalizing m with
  | nil =>
    cases m with
    | nil => rfl
    | cons q r => exact absurd ((h q).mpr List.mem_cons_self) (by simp)
  | cons p l ih =>
    cases m with
    | nil => exact absurd ((h p).mp List.mem_cons_self) (by simp)
    | cons q m =>
      have e : p = q := by
        rcases List.mem_cons.mp ((h p).mp List.mem_cons_self) with e | e
        · exact e
        · rcases List.mem_cons.mp ((h q).mpr List.mem_cons_self) with e2 | e2
          · exact e2.symm
          · exact absurd (List.rel_of_pairwise_cons hl e2) (ltS'_asy (List.rel_of_pairwise_cons hm e))
      subst e
      have hl1 : ∀ z ∈ l, z ≠ p := fun z hz e => by subst e; exact ltS'_irr _ (List.rel_of_pairwise_cons hl hz)
      have hm1 : ∀ z ∈ m, z ≠ p := fun z hz e => by subst e; exact ltS'_irr _ (List.rel_of_pairwise_cons hm hz)
      rw [ih (List.Pairwise.of_cons hl) (List.Pairwise.of_cons hm) fun z => ⟨fun hz => by
        rcases List.mem_cons.mp ((h z).mp (List.mem_cons_of_mem _ hz)) with e | e
        · exact absurd e (hl1 z hz)
        · exact e, fun hz => by
        rcases List.mem_cons.mp ((h z).mpr (List.mem_cons_of_mem _ hz)) with e | e
        · exact absurd e (hm1 z hz)
        · exact e⟩]
/-- two ascending labels agree on the names of S exactly if their parts by S are the same -/
theorem asc_part {l m : Lab} (hl : Asc l) (hm : Asc m) (vl : ∀ p ∈ l, p.2 ≠ "") (vm : ∀ p ∈ m, p.2 ≠ "") (S : Str → Bool) : (l.filter fun p => S p.1) = (m.filter fun p => S p.1) ↔ ∀ n, S n = true → valL l n = valL m n := by
  constructor
  · intro h n hn
    rw [← val_filter l S n hn, h, val_filter m S n hn]
  · intro h
    refine asc_ext (hl.filter _) (hm.filter _) fun p => ?_
    rw [List.mem_filter, List.mem_filter]
    constructor
    · rintro ⟨h1, h2⟩
      have := h _ h2
      rw [hl.mem_val h1] at this
      exact ⟨val_mem this.symm (vl _ h1), h2⟩
    · rintro ⟨h1, h2⟩
      have := h _ h2
      rw [hm.mem_val h1] at this
      exact ⟨val_mem this (vm _ h1), h2⟩
theorem eqvAll_labs : ∀ l m : Lab, PyData.eqvAll (l.map encP) (m.map encP) = decide (l = m)
  | [], [] => rfl
  | [], _ :: _ => by simp [PyData.eqvAll]
  | _ :: _, [] => by simp [PyData.eqvAll]
  | p :: l, q :: m => by
    show (PyData.eqv (encP p) (encP q) && PyData.eqvAll (l.map encP) (m.map encP)) = _
    rw [eqvAll_labs l m]
    have : PyData.eqv (encP p) (encP q) = decide (p = q) := by
      show (PyData.eqv (.str p.1) (.str q.1) && (PyData.eqv (.str p.2) (.str q.2) && true)) = _
      simp [PyData.eqv, Bool.beq_eq_decide_eq, Prod.ext_iff]
    rw [this]; simp
theorem eqv_lab (l m : Lab) : PyData.eqv (encB l) (encB m) = decide (l = m) := eqvAll_labs l m
theorem eqS_lab' (neg : Bool) (l m : Lab) : eqS neg (.d (encB l)) (.d (encB m)) = .ok (.d (.bool (if neg then !decide (l = m) else decide (l = m)))) := by
  rw [eqS_lab, eqv_lab]
end Pl
namespace Pl
open PySem PySem.Spec PyProof.Rows L2
/-! ### loops that may answer, by a plain search -/
theorem forF_some {α : Type} (g : α → D) (q : α → Option SV) {k : D → En → R En} {b : En → R Fl} {ρ0 : En} : ∀ us : List α, (∀ a ∈ us, ∃ ρ1, k (g a) ρ0 = .ok ρ1 ∧ b ρ1 = .ok (match q a with | some r => .rt r | none => .nx ρ0)) → forF k b (us.map g) ρ0 = .ok (match us.findSome? q with | some r => .rt r | none => .nx ρ0)
  | [], _ => rfl
  | a :: us, h => by
    obtain ⟨ρ1, h1, h2⟩ := h a List.mem_cons_self
    have ih := forF_some g q us fun x hx => h x (List.mem_cons_of_mem _ hx)
    rw [List.map_cons, forF, h1, List.findSome?_cons]
    simp only [h2]
    cases hq : q a with
    | some r => rfl
    | none => exact ih
theorem forF_any {α : Type} (g : α → D) (p : α → Bool) (r : SV) {k : D → En → R En} {b : En → R Fl} {ρ0 : En} (us : List α) (h : ∀ a ∈ us, ∃ ρ1, k (g a) ρ0 = .ok ρ1 ∧ b ρ1 = if p a = true then .ok (.rt r) else .ok (.nx ρ0)) : forF k b (us.map g) ρ0 = if us.any p = true then .ok (.rt r) else .ok (.nx ρ0) := by
  have q := forF_some g (fun a => if p a = true then some r else none) (k := k) (b := b) (ρ0 := ρ0) us fun a ha => by
    obtain ⟨ρ1, h1, h2⟩ := h a ha
    refine ⟨ρ1, h1, ?_⟩
    rw [h2]
    cases p a <;> rfl
  rw [q]
  clear q h
  induction us with
  | nil => rfl
  | cons a us ih =>
    rw [List.findSome?_cons, List.any_cons]
    cases p a with
    | true => rfl
    | false => simpa using ih
/-- a loop that leaves when an item fails -/
theorem forF_all {α : Type} (g : α → D) (p : α → Bool) (r : SV) {k : D → En → R En} {b : En → R Fl} {ρ0 : En} (us : List α) (h : ∀ a ∈ us, ∃ ρ1, k (g a) ρ0 = .ok ρ1 ∧ b ρ1 = if p a = true then .ok (.nx ρ0) else .ok (.rt r)) : forF k b (us.map g) ρ0 = if us.all p = true then .ok (.nx ρ0) else .ok (.rt r) := by
  have q := forF_any g (fun a => !p a) r (k := k) (b := b) (ρ0 := ρ0) us fun a ha => by
    obtain ⟨ρ1, h1, h2⟩ := h a ha
    refine ⟨ρ1, h1, ?_⟩
    rw [h2]
    cases p a <;> rfl
  rw [q]
  have : us.all p = !(us.any fun a => !p a) := by rw [List.all_eq_not_any_not]
  rw [this]
  cases us.any fun a => !p a <;> rfl
/-- a loop that goes on -/
theorem forF_go {α : Type} (g : α → D) {k : D → En → R En} {b : En → R Fl} {ρ0 : En} (us : List α) (h : ∀ a ∈ us, ∃ ρ1, k (g a) ρ0 = .ok ρ1 ∧ b ρ1 = .ok (.nx ρ0)) : forF k b (us.map g) ρ0 = .ok (.nx ρ0) := by
  have q := forF_all g (fun _ => true) (.d .none) (k := k) (b := b) (ρ0 := ρ0) us fun a ha => by
    obtain ⟨ρ1, h1, h2⟩ := h a ha
    exact ⟨ρ1, h1, by rw [h2]; rfl⟩
  rw [q, if_pos (by simp)]
theorem list_mem {α : Type} (g : α → D) {us : List α} {i : Nat} {x : D} (h : (us.map g)[i]? = some x) : ∃ a, us[i]? = some a ∧ a ∈ us ∧ x = g a := by
  rw [List.getElem?_map] at h
  cases e : us[i]? with
  | none => rw [e] at h; cases h
  | some a => rw [e] at h; cases h; exact ⟨a, rfl, List.mem_of_getElem? e, rfl⟩
/-! ### plain data of bounded depth -/
theorem plain_mats : ∀ ms : List Mat, PyData.plainAll (ms.map encMt) = true
  | [] => rfl
  | m :: r => by
    show (PyData.plain (encMt m) && PyData.plainAll (r.map encMt)) = true
    rw [plain_mats r, Bool.and_true]
    show (true && (PyData.plainAll (m.vs.map PyData.str) && (true && true))) = true
    rw [plain_strs]; rfl
theorem depth_mats : ∀ ms : List Mat, PyData.depthAll (ms.map encMt) ≤ 2
  | [] => Nat.zero_le _
  | m :: r => by
    show max (PyData.depth (encMt m)) (PyData.depthAll (r.map encMt)) ≤ 2
    have := depth_mats r
    have h : PyData.depth (encMt m) = max 0 (max (PyData.depthAll (m.vs.map PyData.str) + 1) (max 0 0)) + 1 := rfl
    rw [h, depth_strs]; omega
theorem plain_map {α : Type} (g : α → D) (h : ∀ a, PyData.plain (g a) = true) : ∀ us : List α, PyData.plainAll (us.map g) = true
  | [] => rfl
  | a :: r => by
    show (PyData.plain (g a) && PyData.plainAll (r.map g)) = true
    rw [plain_map g h r, h a]; rfl
theorem depth_map {α : Type} (g : α → D) (n : Nat) (h : ∀ a, PyData.depth (g a) ≤ n) : ∀ us : List α, PyData.depthAll (us.map g) ≤ n
  | [] => Nat.zero_le _
  | a :: r => by
    show max (PyData.depth (g a)) (PyData.depthAll (r.map g)) ≤ n
    have := depth_map g n h r
    have := h a
    omega
theorem shp_list {α : Type} (g : α → D) (n : Nat) (hn : n < 60) (h : ∀ a, PyData.plain (g a) = true) (h2 : ∀ a, PyData.depth (g a) ≤ n) (us : List α) : shpD (.list (us.map g)) = true := by
  refine shp_of (plain_map g h us) ?_
  show PyData.depthAll (us.map g) + 1 ≤ 60
  have := depth_map g n h2 us
  omega
theorem plain_lab (l : Lab) : PyData.plain (encB l) = true := plain_labs l
theorem depth_lab (l : Lab) : PyData.depth (encB l) ≤ 2 := by
  show PyData.depthAll (l.map encP) + 1 ≤ 2
  have := depth_labs l
  omega
theorem shaped_labL (P : List Lab) : shpD (.list (P.map encB)) = true := shp_list encB 2 (by omega) plain_lab depth_lab P
theorem any_labs (l : Lab) : ∀ P : List Lab, ((P.map encB).any fun z => PyData.eqv z (encB l)) = decide (l ∈ P)
  | [] => rfl
  | n :: r => by
    rw [List.map_cons, List.any_cons, eqv_lab, any_labs l r]
    by_cases h : n = l
    · subst h; simp
    · have h2 : l ≠ n := fun e => h e.symm
      simp [h, h2]
theorem inS_labs (neg : Bool) (l : Lab) (P : List Lab) {s : SV} (hs : s = .ol (P.map encB) ∨ s = .d (.list (P.map encB))) : inS neg (.d (encB l)) s = .ok (.d (.bool (if neg then !decide (l ∈ P) else decide (l ∈ P)))) := by
  have e := any_labs l P
  have h : shpD (encB l) = true ∧ shpD (.list (P.map encB)) = true := ⟨shaped_lab l, shaped_labL P⟩
  rcases hs with rfl | rfl
  · show (if _ then _ else _) = _
    rw [if_pos h, e]
  · show (if _ then _ else _) = _
    rw [if_pos h, e]
/-! ### encodings in general -/
theorem inS_dl (neg : Bool) (x : D) (ys : List D) (h : shpD x = true) (h2 : shpD (.list ys) = true) {s : SV} (hs : s = .ol ys ∨ s = .d (.list ys)) : inS neg (.d x) s = .ok (.d (.bool (if neg then !(ys.any fun z => PyData.eqv z x) else ys.any fun z => PyData.eqv z x))) := by
  have q : shpD x = true ∧ shpD (.list ys) = true := ⟨h, h2⟩
  rcases hs with rfl | rfl
  · cases x <;> exact (if_pos q : (if shpD _ = true ∧ shpD _ = true then _ else _) = _)
  · cases x <;> exact (if_pos q : (if shpD _ = true ∧ shpD _ = true then _ else _) = _)
theorem any_enc {α : Type} [DecidableEq α] (g : α → D) (he : ∀ a b, PyData.eqv (g a) (g b) = decide (a = b)) (a : α) : ∀ us : List α, ((us.map g).any fun z => PyData.eqv z (g a)) = decide (a ∈ us)
  | [] => rfl
  | n :: r => by
    rw [List.map_cons, List.any_cons, he, any_enc g he a r]
    by_cases h : n = a
    · subst h; simp
    · have h2 : a ≠ n := fun e => h e.symm
      simp [h, h2]
theorem inS_enc {α : Type} [DecidableEq α] (g : α → D) (n : Nat) (hn : n < 60) (hp : ∀ a, PyData.plain (g a) = true) (hd : ∀ a, PyData.depth (g a) ≤ n) (he : ∀ a b, PyData.eqv (g a) (g b) = decide (a = b)) (neg : Bool) (a : α) (us : List α) {s : SV} (hs : s = .ol (us.map g) ∨ s = .d (.list (us.map g))) : inS neg (.d (g a)) s = .ok (.d (.bool (if neg then !decide (a ∈ us) else decide (a ∈ us)))) := by
  rw [inS_dl neg (g a) (us.map g) (shp_of (hp a) (by have := hd a; omega)) (shp_list g n hn hp hd us) hs, any_enc g he]
theorem sorted_enc {α : Type} (g : α → D) (ha : ∀ a b, PySem.W.alike (g a) (g b) = true) (ht : ∀ a, isTup1 (g a) = true) (hd : ∀ a, PyData.depth (g a) ≤ 60) (ps : List α) (h : ps.length < 1000000) : ∃ qs : List α, Pl.sortedS [.ol (ps.map g)] = .ok (.ol (qs.map g)) ∧ qs.Perm ps ∧ qs = ps.mergeSort fun a b => PySem.W.dataLe false id (g a) (g b) := by
  have hz := line16
  refine ⟨ps.mergeSort fun a b => PySem.W.dataLe false id (g a) (g b), ?_, List.mergeSort_perm ps _, rfl⟩
  unfold Pl.sortedS
  have h1 : allAlike (ps.map g) = true := by
    unfold allAlike
    rw [List.all_eq_true]
    intro a h1
    rw [List.all_eq_true]
    intro b h2
    obtain ⟨p, _, rfl⟩ := List.mem_map.mp h1
    obtain ⟨q, _, rfl⟩ := List.mem_map.mp h2
    exact ha p q
  have h2 : sortable (ps.map g) = true := by
    unfold sortable
    rw [Bool.or_eq_true]
    left
    rw [List.all_eq_true]
    intro a h1
    obtain ⟨p, _, rfl⟩ := List.mem_map.mp h1
    exact ht p
  have h3 : ((ps.map g).all fun d => decide (d.depth ≤ 60)) = true := by
    rw [List.all_eq_true]
    intro a h1
    obtain ⟨p, _, rfl⟩ := List.mem_map.mp h1
    exact decide_eq_true (hd p)
  simp only [datL]
  rw [if_pos ⟨h1, h2, h3, by rw [List.length_map]; omega⟩]
  unfold sortD
  congr 2
  exact (List.map_mergeSort (f := g) (s := PySem.W.dataLe false id) (fun a _ b _ => rfl)).symm
theorem alike_labs : ∀ l m : Lab, PySem.W.alikeAll (l.map encP) (m.map encP) = true
  | [], _ => rfl
  | _ :: _, [] => rfl
  | p :: l, q :: m => by
    show PySem.W.alikeAll (encP p :: l.map encP) (encP q :: m.map encP) = true
    rw [PySem.W.alikeAll, alike_labs l m]; rfl
/-! ### runs: labels and a time -/
abbrev RunT := Lab × Int
def encRn (r : RunT) : D := .tuple [encB r.1, .int r.2]
theorem alike_run (a b : RunT) : PySem.W.alike (encRn a) (encRn b) = true := by
  show PySem.W.alikeAll [encB a.1, .int a.2] [encB b.1, .int b.2] = true
  rw [PySem.W.alikeAll, PySem.W.alikeAll, PySem.W.alikeAll]
  show (PySem.W.alikeAll (a.1.map encP) (b.1.map encP) && (true && true)) = true
  rw [alike_labs]; rfl
theorem plain_run (a : RunT) : PyData.plain (encRn a) = true := by
  show (PyData.plain (encB a.1) && (true && true)) = true
  rw [plain_lab]; rfl
theorem depth_run (a : RunT) : PyData.depth (encRn a) ≤ 3 := by
  show max (PyData.depth (encB a.1)) (max 0 0) + 1 ≤ 3
  have := depth_lab a.1
  omega
theorem eqv_run (a b : RunT) : PyData.eqv (encRn a) (encRn b) = decide (a = b) := by
  show (PyData.eqv (encB a.1) (encB b.1) && (PyData.eqv (.int a.2) (.int b.2) && true)) = _
  rw [eqv_lab, eqv_int]
  simp [Prod.ext_iff, Bool.beq_eq_decide_eq]
theorem inS_runs (neg : Bool) (a : RunT) (us : List RunT) {s : SV} (hs : s = .ol (us.map encRn) ∨ s = .d (.list (us.map encRn))) : inS neg (.d (encRn a)) s = .ok (.d (.bool (if neg then !decide (a ∈ us) else decide (a ∈ us)))) := (inS_enc encRn 3 (by omega) plain_run depth_run eqv_run neg a us hs).trans (by congr)
theorem sorted_runs (ps : List RunT) (h : ps.length < 1000000) : ∃ qs : List RunT, Pl.sortedS [.ol (ps.map encRn)] = .ok (.ol (qs.map encRn)) ∧ qs.Perm ps := let ⟨qs, a, b, _⟩ := sorted_enc encRn alike_run (fun _ => rfl) (fun a => by have := depth_run a; omega) ps h; ⟨qs, a, b⟩
end Pl
namespace Pl
open PySem PySem.Spec PyProof.Rows L2
section
variable {fa fb : En → R SV} {ρ : En} {k : D → En → R En} {f : En → R Fl} {i : Nat}
@[simp] theorem enumD_ap : enumD fa ρ = (fa ρ >>= fun a => match a with
  | .d (.list xs) => .ok (pairUp xs)
  | .ol xs => .ok (pairUp xs)
  | .d (.tuple xs) => .ok (pairUp xs)
  | _ => .bad) := nrfl rfl
@[simp] theorem forP_ap : forP i k f ρ = (match ρ[i]? with
  | some (some (.ol xs)) => forF k f xs (ρ.set i (some (.pin xs))) >>= unpin i
  | some (some (.pin xs)) => forF k f xs ρ
  | some (some (.d (.list xs))) => forF k f xs ρ
  | some (some (.d (.tuple xs))) => forF k f xs ρ
  | _ => .bad) := nrfl rfl
@[simp] theorem npin_pin (x : List D) : SV.npin (.pin x) = false := nrfl rfl
@[simp] theorem unpin_nx (ρ : En) : unpin i (.nx ρ) = (match ρ[i]? with
    | some (some (.pin ys)) => .ok (.nx (ρ.set i (some (.ol ys))))
    | _ => .bad) := nrfl rfl
@[simp] theorem lcmS_i (a b : Int) : lcmS [.d (.int a), .d (.int b)] = if okB a = true ∧ okB b = true then .ok (.d (.int ((Nat.lcm a.natAbs b.natAbs : Nat) : Int))) else .bad := nrfl rfl
@[simp] theorem unpin_rt (r : SV) : unpin i (.rt r) = .ok (.rt r) := nrfl rfl
@[simp] theorem repS_ol (xs : List D) (n : Int) : repS (.ol xs) (.d (.int n)) = if 0 ≤ n ∧ n ≤ 1000 ∧ xs.length ≤ 1000 then .ok (.ol (List.replicate n.toNat xs).flatten) else .bad := nrfl rfl
end
/-- a loop that leaves at the first item that passes -/
theorem forF_find {α : Type} (g : α → D) (p : α → Bool) (r : α → SV) {k : D → En → R En} {b : En → R Fl} {ρ0 : En} (us : List α) (h : ∀ a ∈ us, ∃ ρ1, k (g a) ρ0 = .ok ρ1 ∧ b ρ1 = if p a = true then .ok (.rt (r a)) else .ok (.nx ρ0)) : forF k b (us.map g) ρ0 = .ok (match us.find? p with | some a => .rt (r a) | none => .nx ρ0) := by
  have q := forF_some g (fun a => if p a = true then some (r a) else none) (k := k) (b := b) (ρ0 := ρ0) us fun a ha => by
    obtain ⟨ρ1, h1, h2⟩ := h a ha
    refine ⟨ρ1, h1, ?_⟩
    rw [h2]
    cases p a <;> rfl
  rw [q]
  clear q h
  induction us with
  | nil => rfl
  | cons a us ih =>
    rw [List.findSome?_cons, List.find?_cons]
    cases p a with
    | true => rfl
    | false => simpa using ih
theorem lcF_mapα {α : Type} (g0 : α → D) {k : D → En → R En} {t : En → R Bool} {e : En → R SV} {ρ0 : En} (p : α → Bool) (g : α → D) : ∀ (us : List α), (∀ x, x ∈ us → ∃ ρ1, k (g0 x) ρ0 = .ok ρ1 ∧ t ρ1 = .ok (p x) ∧ (p x = true → ∃ r, e ρ1 = .ok r ∧ datS r = .ok (g x))) → lcF k t e ρ0 (us.map g0) = .ok ((us.filter p).map g)
  | [], _ => rfl
  | x :: us, h => by
    obtain ⟨ρ1, h1, h2, h3⟩ := h x List.mem_cons_self
    have ih := lcF_mapα g0 (k := k) (t := t) (e := e) (ρ0 := ρ0) p g us fun x hx => h x (List.mem_cons_of_mem _ hx)
    rw [List.map_cons]
    unfold lcF
    simp only [h1, h2, ok_bind]
    cases hp : p x with
    | false =>
      rw [List.filter_cons_of_neg (by simp [hp])]
      simpa using ih
    | true =>
      obtain ⟨r, h4, h5⟩ := h3 hp
      rw [List.filter_cons_of_pos hp]
      simp [h4, h5, ih]
theorem irng_at {a b : Int} {i : Nat} (h : i < (b - a).toNat) : (irng a b)[i]? = some (a + (i : Nat)) := by
  unfold irng
  rw [List.getElem?_map, List.getElem?_range h]; rfl
theorem pairUp_irng {α : Type} (g : α → D) (ms : List α) : pairUp (ms.map g) = (irng 0 ms.length).map fun k => .tuple [.int k, (ms[k.toNat]?.map g).getD .none] := by
  apply List.ext_getElem?
  intro i
  by_cases h : i < ms.length
  · have e : (ms.map g)[i]? = some (g (ms[i]'h)) := by simp [h]
    rw [pairUp_at e, List.getElem?_map, irng_at (by omega)]
    simp [h]
  · rw [List.getElem?_eq_none (by simp; omega), List.getElem?_eq_none (by simp [irng_len]; omega)]
end Pl
namespace Pl
open PySem PySem.Spec PyProof.Rows L2
section
variable {ρ : En} {i n : Nat} {f : Nat → Bool} {hit : Nat → Bool} {b h : En → R Fl}
@[simp] theorem raiseS_ap : raiseS n ρ = .ex n [] := nrfl rfl
@[simp] theorem isE_ap : isE i f ρ = (match ρ[i]? with
  | some (some (.exn n _)) => .ok (.d (.bool (f n)))
  | _ => .bad) := nrfl rfl
@[simp] theorem bareE_nil : bareE [] = [] := nrfl rfl
@[simp] theorem bareE_d (x : D) : bareE (some (.d x) :: ρ) = some (.d x) :: bareE ρ := nrfl rfl
@[simp] theorem bareE_ol (x : List D) : bareE (some (.ol x) :: ρ) = none :: bareE ρ := nrfl rfl
@[simp] theorem bareE_no : bareE (none :: ρ) = none :: bareE ρ := nrfl rfl
@[simp] theorem fenceF_d (x : D) : fenceF (.rt (.d x)) = .ok (.rt (.d x)) := nrfl rfl
@[simp] theorem fenceF_ol (x : List D) : fenceF (.rt (.ol x)) = .ok (.rt (.ol x)) := nrfl rfl
@[simp] theorem outF_rt (r : SV) : outF i (.rt r) = fenceF (.rt r) := nrfl rfl
theorem tryAs_ok {fl : Fl} (e : b (bareE ρ) = .ok fl) : tryAs i hit b h ρ = fenceF fl := by unfold tryAs; rw [e]
theorem tryAs_ex {as : List D} (e : b (bareE ρ) = .ex n as) (t : hit n = true) : tryAs i hit b h ρ = (h ((bareE ρ).set i (some (.exn n as))) >>= outF i) := by
  unfold tryAs; rw [e]; simp only [t, if_true]
theorem tryOn_ok {fl : Fl} (e : b (bareE ρ) = .ok fl) : tryOn hit b h ρ = fenceF fl := by unfold tryOn; rw [e]
theorem tryOn_ex {as : List D} (e : b (bareE ρ) = .ex n as) (t : hit n = true) : tryOn hit b h ρ = (h (bareE ρ) >>= fenceF) := by
  unfold tryOn; rw [e]; simp only [t, if_true]
end
/-- the first that passes is the same for two tests -/
theorem find_two {α : Type} {p q : α → Bool} : ∀ us : List α, (∀ s, us.find? q = some s → p s = true) → (∀ s ∈ us, p s = true → q s = true) → us.find? p = us.find? q
  | [], _, _ => rfl
  | a :: us, h1, h2 => by
    cases hq : q a with
    | true =>
      have := h1 a (by rw [List.find?_cons, hq])
      rw [List.find?_cons, List.find?_cons, hq, this]
    | false =>
      have hp : p a = false := by
        cases hp : p a with
        | false => rfl
        | true => rw [h2 a List.mem_cons_self hp] at hq; cases hq
      rw [List.find?_cons, List.find?_cons, hq, hp]
      exact find_two us (fun s e => h1 s (by rw [List.find?_cons, hq]; exact e)) fun s hs => h2 s (List.mem_cons_of_mem _ hs)
theorem irng_first {q : Int → Bool} {b : Int} : ∀ (n : Nat) (a s : Int), (b - a).toNat = n → (irng a b).find? q = some s → a ≤ s ∧ s < b ∧ q s = true ∧ ∀ t, a ≤ t → t < s → q t = false
  | 0, a, s, hn, e => by rw [irng_nil (by omega)] at e; cases e
  | n + 1, a, s, hn, e => by
    rw [irng_cons (by omega), List.find?_cons] at e
    cases hq : q a with
    | true =>
      rw [hq] at e; cases e
      exact ⟨by omega, by omega, hq, fun t h1 h2 => by omega⟩
    | false =>
      rw [hq] at e
      obtain ⟨h1, h2, h3, h4⟩ := irng_first n (a + 1) s (by omega) e
      refine ⟨by omega, h2, h3, fun t ht1 ht2 => ?_⟩
      by_cases z : t = a
      · rw [z]; exact hq
      · exact h4 t (by omega) ht2
/-! ### a row that is turned -/
theorem rot_iff {α : Type} {xs : List α} {k : Nat} (hk : k ≤ xs.length) : xs.drop k ++ xs.take k = xs ↔ ∀ i, i < xs.length → xs[(i + k) % xs.length]? = xs[i]? := by
  have at_ : ∀ i, i < xs.length → (xs.drop k ++ xs.take k)[i]? = xs[(i + k) % xs.length]? := fun i hi => by
    by_cases h : i < xs.length - k
    · rw [List.getElem?_append_left (by rw [List.length_drop]; exact h), List.getElem?_drop, Nat.mod_eq_of_lt (by omega), Nat.add_comm]
    · rw [List.getElem?_append_right (by rw [List.length_drop]; omega), List.length_drop, List.getElem?_take]
      have e : (i + k) % xs.length = i - (xs.length - k) := by
        rw [Nat.mod_eq_sub_mod (by omega), Nat.mod_eq_of_lt (by omega)]; omega
      rw [if_pos (by omega), e]
  constructor
  · intro h i hi
    rw [← at_ i hi, h]
  · intro h
    refine List.ext_getElem? fun i => ?_
    by_cases hi : i < xs.length
    · rw [at_ i hi, h i hi]
    · rw [List.getElem?_eq_none (by rw [List.length_append, List.length_drop, List.length_take]; omega), List.getElem?_eq_none (by omega)]
/-- the least turn that leaves a row as it is divides its length -/
theorem rot_least {α : Type} {xs : List α} {k : Nat} (h0 : 0 < k) (hk : k < xs.length) (h : xs.drop k ++ xs.take k = xs) (hl : ∀ t, 0 < t → t < k → ¬ xs.drop t ++ xs.take t = xs) : k ∣ xs.length := by
  have hn : 0 < xs.length := by omega
  have p : ∀ i, xs[(i + k) % xs.length]? = xs[i % xs.length]? := fun i => by
    have := (rot_iff (by omega)).mp h (i % xs.length) (Nat.mod_lt _ hn)
    rw [← this, Nat.mod_add_mod]
  have pq : ∀ q i, xs[(i + k * q) % xs.length]? = xs[i % xs.length]? := by
    intro q
    induction q with
    | zero => intro i; rfl
    | succ q ih =>
      intro i
      rw [Nat.mul_succ, ← Nat.add_assoc, p, ih]
  rcases Nat.eq_zero_or_pos (xs.length % k) with z | z
  · exact Nat.dvd_of_mod_eq_zero z
  · exfalso
    have ht := Nat.mod_lt xs.length h0
    refine hl (xs.length % k) z ht ((rot_iff (by omega)).mpr fun i hi => ?_)
    have e := pq (xs.length / k) (i + xs.length % k)
    have d := Nat.mod_add_div xs.length k
    rw [← e, show i + xs.length % k + k * (xs.length / k) = i + xs.length by omega, Nat.add_mod_right, Nat.mod_eq_of_lt hi]
end Pl
namespace Pl
open PySem PySem.Spec PyProof.Rows L2
section
variable {ρ : En} {i : Nat} {f fk fx : En → R SV}
@[simp] theorem npin_pd (x : List (Key × D)) : SV.npin (.pd x) = false := nrfl rfl
@[simp] theorem dnewS_ap : dnewS ρ = .ok (.od []) := nrfl rfl
@[simp] theorem key1_s (s : Str) : key1 (.d (.str s)) = .ok (.inr s) := nrfl rfl
@[simp] theorem key1_i (s : Int) : key1 (.d (.int s)) = .ok (.inl s) := nrfl rfl
@[simp] theorem dictOf_od (k : List (Key × D)) : dictOf (.od k) = some k := nrfl rfl
@[simp] theorem dictOf_sd (k : List (Key × D)) : dictOf (.sd k) = some k := nrfl rfl
@[simp] theorem dictOf_pd (k : List (Key × D)) : dictOf (.pd k) = some k := nrfl rfl
@[simp] theorem putS_ap : putS i fk f ρ = (f ρ >>= fun r => datS r >>= fun d => match ρ[i]? with
  | some (some (.od kvs)) => fk ρ >>= fun kk => match key1 kk with
    | .ok k => if kvs.length < sizeLine then .ok (.nx (ρ.set i (some (.od (putD kvs k d))))) else .bad
    | _ => .bad
  | _ => .bad) := nrfl rfl
@[simp] theorem dgetS_ap : dgetS i fk ρ = (match ρ[i]? with
  | some (some r) => (match dictOf r with
    | some kvs => fk ρ >>= fun kk => match key1 kk with
      | .ok k => (match valD kvs k with
        | some d => .ok (.d d)
        | none => .bad)
      | _ => .bad
    | none => .bad)
  | _ => .bad) := nrfl rfl
@[simp] theorem dget2S_ap : dget2S i fk fx ρ = (match ρ[i]? with
  | some (some r) => (match dictOf r with
    | some kvs => fk ρ >>= fun kk => match key1 kk with
      | .ok k => fx ρ >>= fun x => (match x with
        | .d x => .ok (.d ((valD kvs k).getD x))
        | _ => .bad)
      | _ => .bad
    | none => .bad)
  | _ => .bad) := nrfl rfl
@[simp] theorem inDS_ap (neg : Bool) : inDS neg i fk ρ = (fk ρ >>= fun kk => match key1 kk with
  | .ok k => (match ρ[i]? with
    | some (some r) => (match dictOf r with
      | some kvs => .ok (.d (.bool (if neg then !(valD kvs k).isSome else (valD kvs k).isSome)))
      | none => .bad)
    | _ => .bad)
  | _ => .bad) := nrfl rfl
@[simp] theorem keysD_ap : keysD i ρ = (match ρ[i]? with
  | some (some (.pd kvs)) => .ok (kvs.map fun kv => keyD kv.1)
  | _ => .bad) := nrfl rfl
end
/-! ### a dict from texts to data -/
def encK {α : Type} (g : α → D) (F : List (Str × α)) : List (Key × D) := F.map fun q => ((Sum.inr q.1 : Key), g q.2)
def valF {α : Type} (F : List (Str × α)) (p : Str) : Option α := (F.find? fun q => decide (q.1 = p)).map (·.2)
theorem valD_enc {α : Type} (g : α → D) (p : Str) : ∀ F : List (Str × α), valD (encK g F) (.inr p) = (valF F p).map g
  | [] => rfl
  | q :: F => by
    have ih := valD_enc g p F
    unfold valD valF encK at ih ⊢
    rw [List.map_cons, List.find?_cons, List.find?_cons]
    by_cases c : q.1 = p
    · simp [c]
    · have c' : ¬ (Sum.inr q.1 : Key) = .inr p := fun z => c (by injection z)
      simp only [c, c', decide_false]
      exact ih
theorem valF_some {α : Type} (p : Str) : ∀ F : List (Str × α), (valF F p).isSome = decide (p ∈ F.map (·.1))
  | [] => rfl
  | q :: F => by
    have ih := valF_some p F
    unfold valF at ih ⊢
    rw [List.find?_cons, List.map_cons]
    by_cases c : q.1 = p
    · simp [c]
    · have c2 : ¬ p = q.1 := fun z => c z.symm
      simp only [c, decide_false, List.mem_cons, c2, false_or]
      exact ih
theorem valF_at {α : Type} : ∀ {F : List (Str × α)} {q : Str × α}, (F.map (·.1)).Nodup → q ∈ F → valF F q.1 = some q.2
  | r :: F, q, nd, h => by
    rw [List.map_cons, List.nodup_cons] at nd
    unfold valF
    rw [List.find?_cons]
    rcases List.mem_cons.mp h with rfl | h
    · simp
    · have c : ¬ r.1 = q.1 := fun z => nd.1 (by rw [z]; exact List.mem_map.mpr ⟨q, h, rfl⟩)
      simp only [c, decide_false]
      exact valF_at nd.2 h
theorem putD_new {α : Type} (g : α → D) {F : List (Str × α)} {p : Str} {x : α} (h : p ∉ F.map (·.1)) : putD (encK g F) (.inr p) (g x) = encK g (F ++ [(p, x)]) := by
  have : ((encK g F).any fun kv => decide (kv.1 = (.inr p : Key))) = false := by
    rw [List.any_eq_false]
    intro kv hk
    obtain ⟨q, hq, rfl⟩ := List.mem_map.mp hk
    simp only [decide_eq_true_eq]
    intro z
    injection z with z
    exact h (List.mem_map.mpr ⟨q, hq, z⟩)
  unfold putD
  rw [this]
  simp [encK]
end Pl
/-! Pm9: simp lemmas for keyed dicts; tables from labels; sorting labels. -/
namespace Pl
open PySem PySem.Spec PyProof.Rows L2
section
variable {ρ : En} {i : Nat} {f fk fx fd : En → R SV}
@[simp] theorem knewS_ap : knewS ρ = .ok (.kd []) := nrfl rfl
@[simp] theorem kdOf_kd (k : List (NestedKey × D)) : kdOf (.kd k) = some k := nrfl rfl
@[simp] theorem kdOf_sk (k : List (NestedKey × D)) : kdOf (.sk k) = some k := nrfl rfl
@[simp] theorem kputS_ap : kputS i fk f ρ = (f ρ >>= fun r => datS r >>= fun d => match ρ[i]? with
  | some (some (.kd kvs)) => fk ρ >>= fun kk => match kdKey kk with
    | .ok k => if kvs.length < sizeLine then .ok (.nx (ρ.set i (some (.kd (putD kvs k d))))) else .bad
    | _ => .bad
  | _ => .bad) := nrfl rfl
@[simp] theorem kget_ap : kget fd fk ρ = (fd ρ >>= fun r => fk ρ >>= fun kk => kgS r kk) := nrfl rfl
@[simp] theorem kget1_ap : kget1 fd fk ρ = (fd ρ >>= fun r => match kdOf r with
  | some kvs => fk ρ >>= fun kk => kg1 kvs kk (.d .none)
  | none => .bad) := nrfl rfl
@[simp] theorem kget2_ap : kget2 fd fk fx ρ = (fd ρ >>= fun r => match kdOf r with
  | some kvs => fk ρ >>= fun kk => fx ρ >>= fun x => kg1 kvs kk x
  | none => .bad) := nrfl rfl
@[simp] theorem kin_ap (neg : Bool) : kin neg fk fd ρ = (fk ρ >>= fun kk => fd ρ >>= fun r => kinS neg kk r) := nrfl rfl
@[simp] theorem kkeysD_ap : kkeysD i ρ = (match ρ[i]? with
  | some (some (.sk kvs)) => .ok (kvs.map fun kv => kv.1.data)
  | _ => .bad) := nrfl rfl
@[simp] theorem insAt_ap : insAt i fk f ρ = (match ρ[i]? with
  | some (some (.ol _)) => insS i fk f ρ
  | _ => .bad) := nrfl rfl
@[simp] theorem insS_ap : insS i fk f ρ = (fk ρ >>= fun kk => f ρ >>= fun r => datS r >>= fun d => match kk, ρ[i]? with
  | .d (.int k), some (some (.ol xs)) => if 0 ≤ k ∧ k ≤ xs.length ∧ xs.length < sizeLine then .ok (.nx (ρ.set i (some (.ol (xs.take k.toNat ++ [d] ++ xs.drop k.toNat))))) else .bad
  | _, _ => .bad) := nrfl rfl
end
theorem callP_ok {n : Nat} {g : List D → R SV} {f : En → R (List SV)} {ρ : En} {rs : List SV} {ds : List D} {r : SV} (h : f ρ = .ok rs) (h2 : datsS rs = .ok ds) (hl : ds.length = n) (h3 : g ds = .ok r) (hs : scalS r = true) : callP n g f ρ = .ok r := by
  unfold callP
  rw [h, ok_bind]
  simp only [h2, hl, h3, hs, if_true]
/-! ### tables from keys of a kind -/
section
variable {α β : Type} [DecidableEq α]
def tblN (kf : α → NestedKey) (g : β → D) (F : List (α × β)) : List (NestedKey × D) := F.map fun q => (kf q.1, g q.2)
def lkp (F : List (α × β)) (a : α) : Option β := (F.find? fun q => decide (q.1 = a)).map (·.2)
def putF (F : List (α × β)) (a : α) (b : β) : List (α × β) := if (lkp F a).isSome = true then F.map (fun q => if q.1 = a then (q.1, b) else q) else F ++ [(a, b)]
theorem lkp_pos {q : α × β} {F : List (α × β)} {a : α} (e : q.1 = a) : lkp (q :: F) a = some q.2 := by simp [lkp, List.find?_cons, e]
theorem lkp_neg {q : α × β} {F : List (α × β)} {a : α} (e : ¬ q.1 = a) : lkp (q :: F) a = lkp F a := by simp [lkp, List.find?_cons, e]
theorem valD_tbl {kf : α → NestedKey} (hk : ∀ a b, kf a = kf b → a = b) (g : β → D) (a : α) : ∀ F : List (α × β), valD (tblN kf g F) (kf a) = (lkp F a).map g
  | [] => rfl
  | q :: F => by
    have ih := valD_tbl hk g a F
    by_cases c : q.1 = a
    · rw [lkp_pos c]; simp [valD, tblN, List.find?_cons, c]
    · rw [lkp_neg c, ← ih]
      have c' : ¬ kf q.1 = kf a := fun z => c (hk _ _ z)
      simp [valD, tblN, List.find?_cons, c']
theorem putD_tbl {kf : α → NestedKey} (hk : ∀ a b, kf a = kf b → a = b) (g : β → D) (F : List (α × β)) (a : α) (b : β) : putD (tblN kf g F) (kf a) (g b) = tblN kf g (putF F a b) := by
  unfold putD putF
  rw [valD_any, valD_tbl hk]
  rw [Option.isSome_map]
  split
  · unfold tblN
    rw [List.map_map, List.map_map]
    refine List.map_congr_left fun q _ => ?_
    by_cases c : q.1 = a
    · simp [c]
    · have c' : ¬ kf q.1 = kf a := fun z => c (hk _ _ z)
      simp [c, c']
  · simp [tblN]
theorem lkp_snoc (a c : α) (b : β) : ∀ F : List (α × β), lkp F a = none → lkp (F ++ [(a, b)]) c = if c = a then some b else lkp F c
  | [], _ => by
    by_cases e : a = c
    · rw [if_pos e.symm]; exact lkp_pos (q := (a, b)) e
    · rw [if_neg (fun z => e z.symm)]; exact lkp_neg (q := (a, b)) e
  | p :: r, hn => by
    rw [List.cons_append]
    have hk : ¬ p.1 = a := fun z => by rw [lkp_pos z] at hn; cases hn
    rw [lkp_neg hk] at hn
    have ih := lkp_snoc a c b r hn
    by_cases e : p.1 = c
    · rw [lkp_pos e, lkp_pos e, if_neg (fun z => hk (e.trans z))]
    · rw [lkp_neg e, lkp_neg e, ih]
theorem lkp_map (a c : α) (b : β) : ∀ F : List (α × β), lkp (F.map fun q => if q.1 = a then (q.1, b) else q) c = (lkp F c).map fun x => if c = a then b else x
  | [] => rfl
  | p :: r => by
    have ih := lkp_map a c b r
    rw [List.map_cons]
    by_cases h : p.1 = a
    · rw [if_pos h]
      by_cases e : p.1 = c
      · rw [lkp_pos (q := (p.1, b)) e, lkp_pos e, Option.map_some, if_pos (e.symm.trans h)]
      · rw [lkp_neg (q := (p.1, b)) e, lkp_neg e, ih]
    · rw [if_neg h]
      by_cases e : p.1 = c
      · rw [lkp_pos (q := p) e, lkp_pos e, Option.map_some, if_neg (fun z => h (e.trans z))]
      · rw [lkp_neg (q := p) e, lkp_neg e, ih]
theorem lkp_put (F : List (α × β)) (a c : α) (b : β) : lkp (putF F a b) c = if c = a then some b else lkp F c := by
  unfold putF
  by_cases h : (lkp F a).isSome = true
  · rw [if_pos h, lkp_map]
    by_cases e : c = a
    · obtain ⟨x, hx⟩ := Option.isSome_iff_exists.mp h
      rw [if_pos e, e, hx, Option.map_some, if_pos rfl]
    · rw [if_neg e]
      cases lkp F c with
      | none => rfl
      | some x => rw [Option.map_some, if_neg e]
  · rw [if_neg h]
    refine lkp_snoc a c b F ?_
    cases q : lkp F a with
    | none => rfl
    | some x => rw [q] at h; exact (h rfl).elim
theorem lkp_some (a : α) : ∀ F : List (α × β), (lkp F a).isSome = decide (a ∈ F.map (·.1))
  | [] => rfl
  | q :: F => by
    have ih := lkp_some a F
    rw [List.map_cons]
    by_cases c : q.1 = a
    · rw [lkp_pos c]; simp [c]
    · have c2 : ¬ a = q.1 := fun z => c z.symm
      rw [lkp_neg c, ih]; simp [c2]
theorem lkp_at : ∀ {F : List (α × β)} {q : α × β}, (F.map (·.1)).Nodup → q ∈ F → lkp F q.1 = some q.2
  | r :: F, q, nd, h => by
    rw [List.map_cons, List.nodup_cons] at nd
    rcases List.mem_cons.mp h with rfl | h
    · exact lkp_pos rfl
    · rw [lkp_neg (fun z => nd.1 (by rw [z]; exact List.mem_map.mpr ⟨q, h, rfl⟩))]
      exact lkp_at nd.2 h
theorem lkp_mem : ∀ {F : List (α × β)} {a : α} {b : β}, lkp F a = some b → (a, b) ∈ F
  | [], _, _, h => by cases h
  | r :: F, a, b, h => by
    by_cases c : r.1 = a
    · rw [lkp_pos c] at h; cases h; subst c; exact List.mem_cons_self
    · rw [lkp_neg c] at h; exact List.mem_cons_of_mem _ (lkp_mem h)
theorem putF_new {F : List (α × β)} {a : α} (b : β) (h : lkp F a = none) : putF F a b = F ++ [(a, b)] := by
  unfold putF
  rw [h]; rfl
theorem putF_len (F : List (α × β)) (a : α) (b : β) : (putF F a b).length ≤ F.length + 1 := by
  unfold putF
  split <;> simp
theorem putF_keys (F : List (α × β)) (a : α) (b : β) : (putF F a b).map (·.1) = if a ∈ F.map (·.1) then F.map (·.1) else F.map (·.1) ++ [a] := by
  unfold putF
  rw [lkp_some]
  by_cases c : a ∈ F.map (·.1)
  · rw [if_pos (decide_eq_true c), if_pos c, List.map_map]
    refine List.map_congr_left fun q _ => ?_
    by_cases e : q.1 = a <;> simp [e]
  · rw [if_neg (by simpa using c), if_neg c]; simp
theorem putF_nodup {F : List (α × β)} {a : α} {b : β} (h : (F.map (·.1)).Nodup) : ((putF F a b).map (·.1)).Nodup := by
  rw [putF_keys]
  split
  · exact h
  · rename_i c
    rw [List.nodup_append]
    refine ⟨h, by simp, ?_⟩
    intro x hx y hy
    simp at hy
    subst hy
    rintro rfl
    exact c hx
end
/-! ### labels as keys -/
def nkP (p : Str × Str) : NestedKey := .tup [.text p.1, .text p.2]
def nkL (l : Lab) : NestedKey := .tup (l.map nkP)
theorem nk_pair (p : Str × Str) : nkD (encP p) = some (nkP p) := by
  simp [encP, nkP, nkD, nkAll]
theorem nk_pairs : ∀ l : Lab, nkAll (l.map encP) = some (l.map nkP)
  | [] => by simp [nkAll]
  | p :: l => by
    rw [List.map_cons, nkAll, nk_pair, nk_pairs l]; rfl
theorem nk_lab (l : Lab) : nkD (encB l) = some (nkL l) := by
  show nkD (.tuple (l.map encP)) = _
  rw [nkD, nk_pairs]; rfl
theorem depth_nkPs : ∀ l : Lab, NestedKey.depthAll (l.map nkP) ≤ 1
  | [] => by simp [NestedKey.depthAll]
  | p :: l => by
    have := depth_nkPs l
    rw [List.map_cons, NestedKey.depthAll]
    simp [nkP, NestedKey.depth, NestedKey.depthAll]; omega
theorem depth_nkL (l : Lab) : (nkL l).depth ≤ 2 := by
  unfold nkL
  rw [NestedKey.depth]
  have := depth_nkPs l
  omega
@[simp] theorem kdKey_lab (l : Lab) : kdKey (.d (encB l)) = .ok (nkL l) := by
  show (match nkD (encB l) with | some k => if k.depth ≤ 8 then R.ok k else .bad | none => .bad) = _
  rw [nk_lab]
  have := depth_nkL l
  simp only
  rw [if_pos (by omega)]
theorem nkPs_inj : ∀ {l m : Lab}, l.map nkP = m.map nkP → l = m
  | [], [], _ => rfl
  | [], _ :: _, h => by simp at h
  | _ :: _, [], h => by simp at h
  | p :: l, q :: m, h => by
    rw [List.map_cons, List.map_cons, List.cons.injEq] at h
    have e : p = q := by
      have h1 := h.1
      unfold nkP at h1
      injection h1 with h1
      injection h1 with h2 h3
      injection h2 with h2
      injection h3 with h3 _
      injection h3 with h3
      exact Prod.ext h2 h3
    rw [e, nkPs_inj h.2]
theorem nkL_inj (l m : Lab) (h : nkL l = nkL m) : l = m := by
  unfold nkL at h
  injection h with h
  exact nkPs_inj h
@[simp] theorem data_nkL (l : Lab) : (nkL l).data = encB l := nk_data _ _ (nk_lab l)
theorem kg1_lab {β : Type} (g : β → D) (F : List (Lab × β)) (l : Lab) (x : D) : kg1 (tblN nkL g F) (.d (encB l)) (.d x) = .ok (.d (((lkp F l).map g).getD x)) := by
  unfold kg1
  rw [kdKey_lab]
  simp only [valD_tbl nkL_inj]
theorem kgS_lab {β : Type} (g : β → D) (F : List (Lab × β)) (l : Lab) (b : β) (h : lkp F l = some b) {r : SV} (hr : r = .kd (tblN nkL g F) ∨ r = .sk (tblN nkL g F)) : kgS r (.d (encB l)) = .ok (.d (g b)) := by
  unfold kgS
  rcases hr with rfl | rfl <;> simp [valD_tbl nkL_inj, h]
theorem kinS_lab {β : Type} (neg : Bool) (g : β → D) (F : List (Lab × β)) (l : Lab) {r : SV} (hr : r = .kd (tblN nkL g F) ∨ r = .sk (tblN nkL g F)) : kinS neg (.d (encB l)) r = .ok (.d (.bool (if neg then !(lkp F l).isSome else (lkp F l).isSome))) := by
  unfold kinS
  rcases hr with rfl | rfl <;> simp [valD_tbl nkL_inj]
/-! ### rows of labels in order -/
def leL (l m : Lab) : Bool := PySem.W.dataLe false id (encB l) (encB m)
def sortL (F : List Lab) : List Lab := F.mergeSort leL
theorem alike_lab (l m : Lab) : PySem.W.alike (encB l) (encB m) = true := alike_labs l m
theorem sortL_ok (F : List Lab) (h : F.length < 1000000) {s : SV} (hs : s = .ol (F.map encB) ∨ s = .d (.list (F.map encB))) : Pl.sortedS [s] = .ok (.ol ((sortL F).map encB)) := by
  obtain ⟨qs, a, _, c⟩ := sorted_enc encB alike_lab (fun l => show isTup1 (.tuple (l.map encP)) = true by rw [isTup1]) (fun l => by have := depth_lab l; omega) F h
  subst c
  rcases hs with rfl | rfl
  · exact a
  · exact a
theorem dlt_irr (d : D) : PySem.W.dataLt d d = false := by
  have h := dle_total id d d
  have e : PySem.W.dataLe false id d d = !PySem.W.dataLt d d := rfl
  rw [Bool.or_self, e] at h
  simpa using h
/-- pairs whose heads are labels are sorted as the labels are -/
theorem sortL_runs (f : Lab → Int) (F : List Lab) (h : F.length < 1000000) : Pl.sortedS [.ol ((F.map fun l => ((l, f l) : RunT)).map encRn)] = .ok (.ol (((sortL F).map fun l => ((l, f l) : RunT)).map encRn)) := by
  obtain ⟨qs, a, _, c⟩ := sorted_enc encRn alike_run (fun _ => rfl) (fun a => by have := depth_run a; omega) (F.map fun l => ((l, f l) : RunT)) (by rw [List.length_map]; exact h)
  rw [a, c]
  congr 3
  unfold sortL
  refine (List.map_mergeSort (f := fun l => ((l, f l) : RunT)) (r := leL) (s := fun a b => PySem.W.dataLe false id (encRn a) (encRn b)) fun a _ b _ => ?_).symm
  show (!PySem.W.dataLt (encB b) (encB a)) = !PySem.W.dataLt (.tuple [encB b, .int (f b)]) (.tuple [encB a, .int (f a)])
  by_cases e : a = b
  · subst e
    rw [dlt_irr, dlt_irr]
  · rw [PySem.W.dataLt_pair (alike_lab b a) (by rfl), eqv_lab]
    have e2 : ¬ b = a := fun z => e z.symm
    simp [e2]
end Pl
/-! PmA: order of alike data; samples (labels, time, value), views. -/
namespace Pl
open PySem PySem.Spec PyProof.Rows L2
section
open PySem.W
theorem dlt_eq (x y : D) : dataLt x y = PyProof.Rows.lexLt itemOrd (keyToks x) (keyToks y) := rfl
/-- of two alike data that differ one is less -/
theorem dlt_tri {x y : D} (h : alike x y = true) (e : PyData.eqv x y = false) (n : dataLt x y = false) : dataLt y x = true := by
  cases c : dataLt y x with
  | true => rfl
  | false =>
    exfalso
    have t : keyToks x = keyToks y := (listOrd itemOrd).total (keyToks x) (keyToks y) n c
    have q := (toks_eqv x y h).2 e [] [Sum.inl 1]
    rw [t, lex_pre] at q
    have q2 := (toks_eqv x y h).2 e [] []
    rw [t, lex_pre] at q2
    rw [← q2] at q
    revert q
    decide
theorem dlt_cons {x y : D} {xs ys : List D} (h : alike x y = true) : dataLt (.tuple (x :: xs)) (.tuple (y :: ys)) = if PyData.eqv x y = true then dataLt (.tuple xs) (.tuple ys) else dataLt x y := by
  rw [dataLt_tuple, dataLt_tuple]
  cases e : PyData.eqv x y with
  | true => rw [dataLt_all_yes h e]; rfl
  | false => rw [dataLt_all_no h e]; rfl
end
/-! ### samples -/
abbrev Ky := Lab × Int
abbrev Smp := Ky × Int
def encKy (k : Ky) : D := .tuple [encB k.1, .int k.2]
def encS (s : Smp) : D := .tuple [encB s.1.1, .int s.1.2, .int s.2]
def nkKy (k : Ky) : NestedKey := .tup [nkL k.1, .num k.2]
theorem nk_ky (k : Ky) : nkD (encKy k) = some (nkKy k) := by
  show nkD (.tuple [encB k.1, .int k.2]) = _
  rw [nkD, nkAll, nk_lab]
  simp [nkAll, nkD, nkKy]
theorem depth_nkKy (k : Ky) : (nkKy k).depth ≤ 3 := by
  have := depth_nkL k.1
  unfold nkKy
  simp [NestedKey.depth, NestedKey.depthAll]; omega
@[simp] theorem kdKey_ky (l : Lab) (t : Int) : kdKey (.d (.tuple [encB l, .int t])) = .ok (nkKy (l, t)) := by
  show (match nkD (encKy (l, t)) with | some k => if k.depth ≤ 8 then R.ok k else .bad | none => .bad) = _
  rw [nk_ky]
  have := depth_nkKy (l, t)
  simp only
  rw [if_pos (by omega)]
theorem nkKy_inj (a b : Ky) (h : nkKy a = nkKy b) : a = b := by
  unfold nkKy at h
  injection h with h
  injection h with h1 h2
  injection h2 with h2 _
  injection h2 with h2
  exact Prod.ext (nkL_inj _ _ h1) h2
@[simp] theorem data_nkKy (k : Ky) : (nkKy k).data = encKy k := nk_data _ _ (nk_ky k)
theorem kg1_ky (F : List (Ky × Int)) (l : Lab) (t : Int) (x : D) : kg1 (tblN nkKy PyData.int F) (.d (.tuple [encB l, .int t])) (.d x) = .ok (.d (((lkp F (l, t)).map PyData.int).getD x)) := by
  unfold kg1
  rw [kdKey_ky]
  simp only [valD_tbl nkKy_inj]
theorem kgS_ky (F : List (Ky × Int)) (l : Lab) (t v : Int) (h : lkp F (l, t) = some v) {r : SV} (hr : r = .kd (tblN nkKy PyData.int F) ∨ r = .sk (tblN nkKy PyData.int F)) : kgS r (.d (.tuple [encB l, .int t])) = .ok (.d (.int v)) := by
  unfold kgS
  rcases hr with rfl | rfl <;> simp [valD_tbl nkKy_inj, h]
theorem kinS_ky (neg : Bool) (F : List (Ky × Int)) (l : Lab) (t : Int) {r : SV} (hr : r = .kd (tblN nkKy PyData.int F) ∨ r = .sk (tblN nkKy PyData.int F)) : kinS neg (.d (.tuple [encB l, .int t])) r = .ok (.d (.bool (if neg then !(lkp F (l, t)).isSome else (lkp F (l, t)).isSome))) := by
  unfold kinS
  rcases hr with rfl | rfl <;> simp [valD_tbl nkKy_inj]
theorem alike_ky (a b : Ky) : PySem.W.alike (encKy a) (encKy b) = true := by
  show PySem.W.alikeAll [encB a.1, .int a.2] [encB b.1, .int b.2] = true
  rw [PySem.W.alikeAll, PySem.W.alikeAll, PySem.W.alikeAll]
  show (PySem.W.alike (encB a.1) (encB b.1) && (true && true)) = true
  rw [alike_lab]; rfl
theorem alike_s (a b : Smp) : PySem.W.alike (encS a) (encS b) = true := by
  show PySem.W.alikeAll [encB a.1.1, .int a.1.2, .int a.2] [encB b.1.1, .int b.1.2, .int b.2] = true
  rw [PySem.W.alikeAll, PySem.W.alikeAll, PySem.W.alikeAll, PySem.W.alikeAll]
  show (PySem.W.alike (encB a.1.1) (encB b.1.1) && (true && (true && true))) = true
  rw [alike_lab]; rfl
theorem plain_s (a : Smp) : PyData.plain (encS a) = true := by
  show (PyData.plain (encB a.1.1) && (true && (true && true))) = true
  rw [plain_lab]; rfl
theorem depth_s (a : Smp) : PyData.depth (encS a) ≤ 3 := by
  show max (PyData.depth (encB a.1.1)) (max 0 (max 0 0)) + 1 ≤ 3
  have := depth_lab a.1.1
  omega
theorem depth_ky (a : Ky) : PyData.depth (encKy a) ≤ 3 := by
  show max (PyData.depth (encB a.1)) (max 0 0) + 1 ≤ 3
  have := depth_lab a.1
  omega
theorem eqv_s (a b : Smp) : PyData.eqv (encS a) (encS b) = decide (a = b) := by
  show (PyData.eqv (encB a.1.1) (encB b.1.1) && (PyData.eqv (.int a.1.2) (.int b.1.2) && (PyData.eqv (.int a.2) (.int b.2) && true))) = _
  rw [eqv_lab, eqv_int, eqv_int]
  simp [Prod.ext_iff, Bool.beq_eq_decide_eq, and_assoc]
theorem eqv_ky (a b : Ky) : PyData.eqv (encKy a) (encKy b) = decide (a = b) := by
  show (PyData.eqv (encB a.1) (encB b.1) && (PyData.eqv (.int a.2) (.int b.2) && true)) = _
  rw [eqv_lab, eqv_int]
  simp [Prod.ext_iff, Bool.beq_eq_decide_eq]
def leSm (a b : Smp) : Bool := PySem.W.dataLe false id (encS a) (encS b)
def ltK (a b : Ky) : Bool := PySem.W.dataLt (encKy a) (encKy b)
/-- samples in order with different keys have their keys in strict order -/
theorem le_ltK {a b : Smp} (h : leSm a b = true) (ne : a.1 ≠ b.1) : ltK a.1 b.1 = true := by
  have e : leSm a b = !PySem.W.dataLt (encS b) (encS a) := rfl
  rw [e] at h
  have h' : PySem.W.dataLt (encS b) (encS a) = false := by simpa using h
  unfold encS at h'
  rw [dlt_cons (alike_lab b.1.1 a.1.1)] at h'
  unfold ltK encKy
  rw [dlt_cons (alike_lab a.1.1 b.1.1)]
  by_cases c : a.1.1 = b.1.1
  · have c' : b.1.1 = a.1.1 := c.symm
    rw [eqv_lab, decide_eq_true c', if_pos rfl, dlt_cons (by rfl)] at h'
    rw [eqv_lab, decide_eq_true c, if_pos rfl, dlt_cons (by rfl)]
    have c2 : a.1.2 ≠ b.1.2 := fun z => ne (Prod.ext c z)
    have c3 : b.1.2 ≠ a.1.2 := fun z => c2 z.symm
    rw [eqv_int] at h' ⊢
    have b1 : (b.1.2 == a.1.2) = false := beq_eq_false_iff_ne.mpr c3
    have b2 : (a.1.2 == b.1.2) = false := beq_eq_false_iff_ne.mpr c2
    rw [b1, if_neg (by simp), PySem.W.dataLt_int] at h'
    rw [b2, if_neg (by simp), PySem.W.dataLt_int]
    have := of_decide_eq_false h'
    exact decide_eq_true (by omega)
  · have c' : ¬ b.1.1 = a.1.1 := fun z => c z.symm
    rw [eqv_lab, decide_eq_false c', if_neg (by simp)] at h'
    rw [eqv_lab, decide_eq_false c, if_neg (by simp)]
    exact dlt_tri (alike_lab _ _) (by rw [eqv_lab]; exact decide_eq_false c') h'
def sortSm (V : List Smp) : List Smp := V.mergeSort leSm
theorem sortSm_ok (F : List Smp) (h : F.length < 1000000) {s : SV} (hs : s = .ol (F.map encS) ∨ s = .d (.list (F.map encS))) : Pl.sortedS [s] = .ok (.ol ((sortSm F).map encS)) := by
  obtain ⟨qs, a, _, c⟩ := sorted_enc encS alike_s (fun _ => rfl) (fun l => by have := depth_s l; omega) F h
  subst c
  rcases hs with rfl | rfl
  · exact a
  · exact a
theorem sortSm_perm (V : List Smp) : (sortSm V).Perm V := List.mergeSort_perm V _
theorem sortSm_pw (V : List Smp) : (sortSm V).Pairwise fun a b => leSm a b = true :=
  List.pairwise_mergeSort (fun a b c h1 h2 => dle_trans id (encS a) (encS b) (encS c) h1 h2) (fun a b => dle_total id (encS a) (encS b)) V
/-- a view: ascending, each labels and time once -/
structure ViewOk (V : List Smp) : Prop where
  pw : V.Pairwise fun a b => leSm a b = true
  nd : (V.map (·.1)).Nodup
theorem view_sort {V : List Smp} (h : (V.map (·.1)).Nodup) : ViewOk (sortSm V) := ⟨sortSm_pw V, ((sortSm_perm V).map _).nodup_iff.mpr h⟩
theorem lkp_iff {α β : Type} [DecidableEq α] {F : List (α × β)} (nd : (F.map (·.1)).Nodup) (a : α) (b : β) : lkp F a = some b ↔ (a, b) ∈ F :=
  ⟨lkp_mem, fun h => lkp_at nd h⟩
theorem lkp_perm {α β : Type} [DecidableEq α] {F G : List (α × β)} (nd : (F.map (·.1)).Nodup) (p : F.Perm G) (a : α) : lkp F a = lkp G a := by
  have nd2 : (G.map (·.1)).Nodup := (p.map _).nodup_iff.mp nd
  cases e : lkp G a with
  | some b => exact (lkp_iff nd a b).mpr (p.mem_iff.mpr ((lkp_iff nd2 a b).mp e))
  | none =>
    cases e2 : lkp F a with
    | none => rfl
    | some b =>
      have := (lkp_iff nd2 a b).mpr (p.mem_iff.mp ((lkp_iff nd a b).mp e2))
      rw [e] at this; cases this
def newestI (V : List Smp) : Int := V.foldl (fun m s => imax m s.1.2) 0
theorem newest_go {V W : List Smp} (p : V.Perm W) : ∀ m : Int, V.foldl (fun m s => imax m s.1.2) m = W.foldl (fun m s => imax m s.1.2) m := by
  induction p with
  | nil => intro m; rfl
  | cons x _ ih => intro m; exact ih _
  | swap x y l =>
    intro m
    show List.foldl _ (imax (imax m y.1.2) x.1.2) l = List.foldl _ (imax (imax m x.1.2) y.1.2) l
    congr 1
    unfold imax
    split <;> split <;> (try split) <;> (try split) <;> omega
  | trans _ _ ih1 ih2 => intro m; rw [ih1, ih2]
theorem newest_perm {V W : List Smp} (p : V.Perm W) : newestI V = newestI W := newest_go p 0
theorem newest_snoc (V : List Smp) (s : Smp) : newestI (V ++ [s]) = imax (newestI V) s.1.2 := by unfold newestI; rw [List.foldl_append]; rfl
def encOI : Option Int → D
  | none => .none
  | some v => .int v
theorem encOI_get (o : Option Int) : (o.map PyData.int).getD .none = encOI o := by cases o <;> rfl
end Pl
/-! PmB: dicts by texts: put, sorted keys; labels as tables. -/
namespace Pl
open PySem PySem.Spec PyProof.Rows L2
theorem valF_lkp {α : Type} (F : List (Str × α)) (p : Str) : valF F p = lkp F p := rfl
theorem putD_enc {α : Type} (g : α → D) (F : List (Str × α)) (p : Str) (x : α) : putD (encK g F) (.inr p) (g x) = encK g (putF F p x) := by
  unfold putD putF
  rw [valD_any, valD_enc, valF_lkp, Option.isSome_map]
  split
  · unfold encK
    rw [List.map_map, List.map_map]
    refine List.map_congr_left fun q _ => ?_
    by_cases c : q.1 = p
    · simp [c]
    · have c' : ¬ (Sum.inr q.1 : Key) = .inr p := fun z => c (by injection z)
      simp [c, c']
  · simp [encK]
def sortStr (ss : List Str) : List Str := ss.mergeSort fun a b => PySem.W.dataLe false id (.str a) (.str b)
theorem noLs_strs : ∀ ss : List Str, noLs (ss.map PyData.str) = true
  | [] => by simp [noLs]
  | s :: ss => by
    have := noLs_strs ss
    simp only [List.map_cons, noLs, noL, this, Bool.and_self]
theorem strs_ok (ss : List Str) : noLs (ss.map PyData.str) = true ∧ allAlike (ss.map PyData.str) = true ∧ sortable (ss.map PyData.str) = true ∧ ((ss.map PyData.str).all fun d => decide (d.depth ≤ 60)) = true := by
  refine ⟨noLs_strs ss, ?_, ?_, ?_⟩
  · unfold allAlike
    rw [List.all_eq_true]
    intro a h1
    rw [List.all_eq_true]
    intro b h2
    obtain ⟨p, _, rfl⟩ := List.mem_map.mp h1
    obtain ⟨q, _, rfl⟩ := List.mem_map.mp h2
    rfl
  · unfold sortable
    rw [Bool.or_eq_true]
    right
    rw [List.all_eq_true]
    intro a h1
    obtain ⟨p, _, rfl⟩ := List.mem_map.mp h1
    rfl
  · rw [List.all_eq_true]
    intro a h1
    obtain ⟨p, _, rfl⟩ := List.mem_map.mp h1
    rfl
theorem keys_enc {α : Type} (g : α → D) (F : List (Str × α)) : (encK g F).map (fun kv => keyD kv.1) = (F.map (·.1)).map PyData.str := by
  unfold encK
  rw [List.map_map, List.map_map]; rfl
theorem sortKS_enc {α : Type} (g : α → D) (F : List (Str × α)) {s : SV} (hs : s = .od (encK g F) ∨ s = .sd (encK g F)) : sortKS [s] = .ok (.ol ((sortStr (F.map (·.1))).map PyData.str)) := by
  have h := strs_ok (F.map (·.1))
  have e : sortD ((F.map (·.1)).map PyData.str) = (sortStr (F.map (·.1))).map PyData.str := (List.map_mergeSort (f := PyData.str) (s := PySem.W.dataLe false id) (fun a _ b _ => rfl)).symm
  have k : keysV s = some ((F.map (·.1)).map PyData.str) := by rcases hs with rfl | rfl <;> (show some _ = _; rw [keys_enc])
  show (match keysV s with
    | some ds => if noLs ds = true ∧ allAlike ds = true ∧ sortable ds = true ∧ (ds.all fun d => decide (d.depth ≤ 60)) = true then R.ok (SV.ol (sortD ds)) else .bad
    | none => .bad) = _
  rw [k]
  simp only
  rw [if_pos h, e]
theorem listKS_enc {α : Type} (g : α → D) (F : List (Str × α)) {s : SV} (hs : s = .od (encK g F) ∨ s = .sd (encK g F)) : listKS [s] = .ok (.ol ((F.map (·.1)).map PyData.str)) := by
  have k : keysV s = some ((F.map (·.1)).map PyData.str) := by rcases hs with rfl | rfl <;> (show some _ = _; rw [keys_enc])
  show (match keysV s with
    | some ds => R.ok (SV.ol ds)
    | none => .bad) = _
  rw [k]
theorem sortStr_perm (ss : List Str) : (sortStr ss).Perm ss := List.mergeSort_perm ss _
theorem sortStr_asc {ss : List Str} (nd : ss.Nodup) : (sortStr ss).Pairwise ltS' := by
  have pw : (sortStr ss).Pairwise fun a b => PySem.W.dataLe false id (.str a) (.str b) = true := List.pairwise_mergeSort (fun a b c h1 h2 => dle_trans id (.str a) (.str b) (.str c) h1 h2) (fun a b => dle_total id (.str a) (.str b)) ss
  have nd2 : (sortStr ss).Nodup := (sortStr_perm ss).nodup_iff.mpr nd
  refine (pw.and nd2).imp fun h => ?_
  obtain ⟨h1, h2⟩ := h
  rename_i a b
  have e : PySem.W.dataLe false id (.str a) (.str b) = !PySem.W.dataLt (.str b) (.str a) := rfl
  rw [e, PySem.W.dataLt_str] at h1
  have hn : ¬ (b.cps.toList < a.cps.toList) := fun z => by rw [decide_eq_true z] at h1; cases h1
  exact Std.lt_of_le_of_ne (List.not_lt.mp hn) (str_ne h2)
/-! ### labels as tables -/
theorem valL_lkp (l : Lab) (n : Str) : valL l n = (lkp l n).getD "" := by
  unfold valL lkp
  cases l.find? fun p => decide (p.1 = n) <;> rfl
theorem Asc.nodup {l : Lab} (h : Asc l) : (l.map (·.1)).Nodup := by
  rw [List.nodup_iff_pairwise_ne, List.pairwise_map]
  exact h.imp fun h => ltS'_ne h
theorem valL_perm {l m : Lab} (nd : (l.map (·.1)).Nodup) (p : l.Perm m) (n : Str) : valL l n = valL m n := by rw [valL_lkp, valL_lkp, lkp_perm nd p]
theorem asc_val_ext {l m : Lab} (hl : Asc l) (hm : Asc m) (vl : ∀ p ∈ l, p.2 ≠ "") (vm : ∀ p ∈ m, p.2 ≠ "") (h : ∀ n, valL l n = valL m n) : l = m := by
  have := (asc_part hl hm vl vm fun _ => true).mpr fun n _ => h n
  rwa [List.filter_eq_self.mpr (fun _ _ => rfl), List.filter_eq_self.mpr (fun _ _ => rfl)] at this
theorem lkp_filter_no {β : Type} (l : List (Str × β)) (S : Str → Bool) (n : Str) (h : S n = false) : lkp (l.filter fun p => S p.1) n = none := by
  cases e : lkp (l.filter fun p => S p.1) n with
  | none => rfl
  | some b =>
    have := (List.mem_filter.mp (lkp_mem e)).2
    simp only at this
    rw [h] at this; cases this
theorem val_filter_no (l : Lab) (S : Str → Bool) (n : Str) (h : S n = false) : valL (l.filter fun p => S p.1) n = "" := by rw [valL_lkp, lkp_filter_no l S n h]; rfl
end Pl
namespace Pl
open PySem PySem.Spec PyProof.Rows L2
section
variable {ρ : En} {i n : Nat} {f : Nat → Bool} {g : En → R (List D)}
@[simp] theorem raiseA_ap : raiseA n g ρ = (g ρ >>= fun ds => if ds.length = 1 then .ex n ds else .bad) := nrfl rfl
@[simp] theorem excF_ap : excF i ρ = (match ρ[i]? with
  | some (some (.exn _ [x])) => .ok (.d x)
  | _ => .bad) := nrfl rfl
@[simp] theorem isY_ap : isY i f ρ = (match ρ[i]? with
  | some (some (.exn n [_])) => .ok (.d (.bool (f n)))
  | _ => .bad) := nrfl rfl
end
/-- one sign in a text -/
theorem inS_chr (neg : Bool) (n : Nat) (y : Str) : inS neg (.d (.str ⟨#[n]⟩)) (.d (.str y)) = .ok (.d (.bool (if neg then !decide (n ∈ y.cps.toList) else decide (n ∈ y.cps.toList)))) := by
  show R.ok (SV.d (.bool (if neg then !(!(Builtin.Str.occurrences y ⟨#[n]⟩ 0 y.length 1).isEmpty) else !(Builtin.Str.occurrences y ⟨#[n]⟩ 0 y.length 1).isEmpty))) = _
  rw [PySem.StrLaws.found_one]
theorem lenS_str (z : Str) (h : z.length ≤ 1000) : lenS [.d (.str z)] = .ok (.d (.int z.length)) := by
  have := line16
  show (if z.length ≤ sizeLine then R.ok (SV.d (.int z.length)) else .bad) = _
  rw [if_pos (by omega)]
theorem ixS_first (z : Str) (n : Nat) (r : List Nat) (e : z.cps.toList = n :: r) (h : z.length ≤ 1000) : ixS (.d (.str z)) (.d (.int 0)) = .ok (.d (.str ⟨#[n]⟩)) := by
  have := line16
  show (if z.length ≤ sizeLine then (match atI z.cps.toList 0 with | some c => R.ok (SV.d (.str ⟨#[c]⟩)) | none => .bad) else .bad) = _
  have a : atI (n :: r) (0 : Int) = some n := atI_of (by omega) (by rw [List.length_cons]; omega)
  rw [if_pos (by omega), e, a]
/-- two ascending rows of the same pairs are one -/
theorem Asc.perm_eq {l m : Lab} (hl : Asc l) (hm : Asc m) (p : l.Perm m) (vl : ∀ q ∈ l, q.2 ≠ "") : l = m :=
  asc_val_ext hl hm vl (fun q hq => vl q (p.mem_iff.mpr hq)) fun n => valL_perm hl.nodup p n
end Pl
namespace Pl
open PySem PySem.Spec PyProof.Rows L2
theorem lc2F_flat {α : Type} (g : α → D) (h : α → List D) {k : D → En → R En} {t : En → R Bool} {inn : En → R (List D)} {ρ0 : En} : ∀ us : List α, (∀ a ∈ us, ∃ ρ1, k (g a) ρ0 = .ok ρ1 ∧ t ρ1 = .ok true ∧ inn ρ1 = .ok (h a)) → lc2F k t inn ρ0 (us.map g) = .ok (us.flatMap h)
  | [], _ => rfl
  | a :: us, H => by
    obtain ⟨ρ1, h1, h2, h3⟩ := H a List.mem_cons_self
    have ih := lc2F_flat g h us fun b hb => H b (List.mem_cons_of_mem _ hb)
    rw [List.map_cons, lc2F, h1]
    simp only [h2, ok_bind, if_true, h3, ih, List.flatMap_cons]
theorem lcE2_flat {α : Type} (g : α → D) (h : α → List D) {fi : En → R (List D)} {k : D → En → R En} {t : En → R Bool} {inn : En → R (List D)} {vs : List Nat} {ρ : En} (us : List α) (hp : noPin ρ = true) (hf : fi ρ = .ok (us.map g)) (hl : (us.flatMap h).length < sizeLine)
    (H : ∀ a ∈ us, ∃ ρ1, k (g a) (wipeE ρ vs) = .ok ρ1 ∧ t ρ1 = .ok true ∧ inn ρ1 = .ok (h a)) : lcE2 fi k t inn vs ρ = .ok (.ol (us.flatMap h)) := by
  unfold lcE2
  rw [if_pos hp, hf, ok_bind, lc2F_flat g h us H]
  exact if_pos hl
theorem lcE_mapα {α : Type} (g0 : α → D) (p : α → Bool) (g : α → D) {fi : En → R (List D)} {k : D → En → R En} {t : En → R Bool} {e : En → R SV} {vs : List Nat} {ρ : En} (us : List α) (hf : fi ρ = .ok (us.map g0)) (hl : us.length < sizeLine)
    (h : ∀ x ∈ us, ∃ ρ1, k (g0 x) (wipeE ρ vs) = .ok ρ1 ∧ t ρ1 = .ok (p x) ∧ (p x = true → ∃ r, e ρ1 = .ok r ∧ datS r = .ok (g x))) : lcE fi k t e vs ρ = .ok (.ol ((us.filter p).map g)) := by
  rw [lcE_ap, hf, ok_bind, if_pos (by rw [List.length_map]; exact hl), lcF_mapα g0 p g us h]; rfl
theorem lcE_allα {α : Type} (g0 : α → D) (g : α → D) {fi : En → R (List D)} {k : D → En → R En} {e : En → R SV} {vs : List Nat} {ρ : En} (us : List α) (hf : fi ρ = .ok (us.map g0)) (hl : us.length < sizeLine)
    (h : ∀ x ∈ us, ∃ ρ1, k (g0 x) (wipeE ρ vs) = .ok ρ1 ∧ ∃ r, e ρ1 = .ok r ∧ datS r = .ok (g x)) : lcE fi k yesT e vs ρ = .ok (.ol (us.map g)) := by
  have q := lcE_mapα g0 (fun _ => true) g (t := yesT) us hf hl fun x hx => let ⟨ρ1, a, b⟩ := h x hx; ⟨ρ1, a, rfl, fun _ => b⟩
  rw [List.filter_eq_self.mpr fun _ _ => rfl] at q
  exact q
theorem lcE_ex {α : Type} (g : α → D) (Q : α → Prop) {fi : En → R (List D)} {k : D → En → R En} {e : En → R SV} {vs : List Nat} {ρ : En} (xs : List D) (hf : fi ρ = .ok xs) (hl : xs.length < sizeLine)
    (h : ∀ x, x ∈ xs → ∃ ρ1 r y, k x (wipeE ρ vs) = .ok ρ1 ∧ e ρ1 = .ok r ∧ datS r = .ok (g y) ∧ Q y) : ∃ ys : List α, lcE fi k yesT e vs ρ = .ok (.ol (ys.map g)) ∧ ys.length = xs.length ∧ ∀ y ∈ ys, Q y := by
  obtain ⟨ys, a, b, c⟩ := lcF_ex g Q (k := k) (e := e) (ρ0 := wipeE ρ vs) xs h
  exact ⟨ys, by rw [lcE_ap, hf, ok_bind, if_pos hl, a]; rfl, b, c⟩
theorem rngD1_is {fa : En → R SV} {ρ : En} {j : Int} (h : fa ρ = .ok (.d (.int j))) (hj : okR j = true) : rngD1 (conB fa nilB) ρ = .ok (rng 0 j) := by
  simp [h, hj]
theorem rngD2_is {fa fb : En → R SV} {ρ : En} {i j : Int} (h : fa ρ = .ok (.d (.int i))) (h' : fb ρ = .ok (.d (.int j))) (hi : okR i = true) (hj : okR j = true) : rngD2 (conB fa (conB fb nilB)) ρ = .ok (rng i j) := by
  simp [h, h', hi, hj]
theorem seqD_l {fa : En → R SV} {ρ : En} {xs : List D} (h : fa ρ = .ok (.d (.list xs))) : seqD fa ρ = .ok xs := by rw [seqD_ap, h]; rfl
theorem seqD_t {fa : En → R SV} {ρ : En} {xs : List D} (h : fa ρ = .ok (.d (.tuple xs))) : seqD fa ρ = .ok xs := by rw [seqD_ap, h]; rfl
theorem seqD_o {fa : En → R SV} {ρ : En} {xs : List D} (h : fa ρ = .ok (.ol xs)) : seqD fa ρ = .ok xs := by rw [seqD_ap, h]; rfl
theorem addS_oo (xs ys : List D) (h : xs.length + ys.length ≤ 16000000) : addS (.ol xs) (.ol ys) = .ok (.ol (xs ++ ys)) := by
  have hz := line16
  show (if xs.length + ys.length ≤ sizeLine then Pl.R.ok (SV.ol (xs ++ ys)) else Pl.R.bad) = _
  rw [if_pos (by omega)]
theorem addS_dd (xs ys : List D) (h : xs.length + ys.length ≤ 16000000) : addS (.d (.list xs)) (.d (.list ys)) = .ok (.ol (xs ++ ys)) := by
  have hz := line16
  show (if xs.length + ys.length ≤ sizeLine then Pl.R.ok (SV.ol (xs ++ ys)) else Pl.R.bad) = _
  rw [if_pos (by omega)]
theorem addS_od (xs ys : List D) (h : xs.length + ys.length ≤ 16000000) : addS (.ol xs) (.d (.list ys)) = .ok (.ol (xs ++ ys)) := by
  have hz := line16
  show (if xs.length + ys.length ≤ sizeLine then Pl.R.ok (SV.ol (xs ++ ys)) else Pl.R.bad) = _
  rw [if_pos (by omega)]
theorem addS_do (xs ys : List D) (h : xs.length + ys.length ≤ 16000000) : addS (.d (.list xs)) (.ol ys) = .ok (.ol (xs ++ ys)) := by
  have hz := line16
  show (if xs.length + ys.length ≤ sizeLine then Pl.R.ok (SV.ol (xs ++ ys)) else Pl.R.bad) = _
  rw [if_pos (by omega)]
theorem addS_tt (xs ys : List D) (h : xs.length + ys.length ≤ 16000000) : addS (.d (.tuple xs)) (.d (.tuple ys)) = .ok (.d (.tuple (xs ++ ys))) := by
  have hz := line16
  show (if xs.length + ys.length ≤ sizeLine then Pl.R.ok (SV.d (.tuple (xs ++ ys))) else Pl.R.bad) = _
  rw [if_pos (by omega)]
theorem runB_ex {n m k : Nat} {as : List D} {b : En → R Fl} {ds : List D} (h : b (startE m ds) = .ex k as) (hn : ds.length = n) : runB n m b ds = .ex k as := by
  unfold runB
  rw [if_pos hn, h]; rfl
end Pl
namespace Pl
open PySem PySem.Spec PyProof.Rows L2
section
variable {C0 nm : Str} {f fa fb fc fd : En → R SV} {ρ : En} {k n m i : Nat} {g : List SV → R SV} {gA : En → R (List SV)} {g1 g2 g3 : SV → SV → R SV}
@[simp] theorem fldE_ap : fldE C0 nm f ρ = (f ρ >>= fieldS C0 nm) := nrfl rfl
@[simp] theorem neverS_ap : neverS ρ = .bad := nrfl rfl
@[simp] theorem nilG_ap : nilG ρ = .ok [] := nrfl rfl
@[simp] theorem conG_ap : conG f gA ρ = (f ρ >>= fun a => shrS a >>= fun d => gA ρ >>= fun ds => .ok (d :: ds)) := nrfl rfl
@[simp] theorem callG_ap : callG n g gA ρ = (gA ρ >>= fun ds => if ds.length = n then g ds else .bad) := nrfl rfl
@[simp] theorem callK_ap (ms : List SV) (l : List (Bool × Nat)) : callK m n ms l g gA ρ = (gA ρ >>= fun rs => if rs.length = m ∧ (pick ms rs l).length = n then g (pick ms rs l) else .bad) := nrfl rfl
@[simp] theorem makeE_ap (gi : List SV → R (List (Str × D))) : makeE C0 n gi gA ρ = (gA ρ >>= fun rs => if rs.length = n then (match gi rs with
  | .ok fs => .ok (.so C0 fs)
  | _ => .bad) else .bad) := nrfl rfl
@[simp] theorem rowE_ap (b : Bool) (g : En → R (List D)) : rowE b f g ρ = (f ρ >>= fun r => match r with
  | .so C fs => g ρ >>= fun ds => if ds.length ≤ 999 then .ok (.rw b C fs ds) else .bad
  | _ => .bad) := nrfl rfl
@[simp] theorem asgW_ap (i n : Nat) (ks : List D → En → R En) : asgW i n ks f ρ = (f ρ >>= fun r => match r with
  | .rw _ C fs xs => if xs.length + 1 = n then (match ks xs (ρ.set i (some (.so C fs))) with
    | .ok ρ' => .ok (.nx ρ')
    | _ => .bad) else .bad
  | _ => .bad) := nrfl rfl
@[simp] theorem npin_rw (b : Bool) (C : Str) (x : List (Str × D)) (y : List D) : SV.npin (.rw b C x y) = true := nrfl rfl
@[simp] theorem bareE_so (C : Str) (x : List (Str × D)) : bareE (some (.so C x) :: ρ) = some (.so C x) :: bareE ρ := nrfl rfl
@[simp] theorem shrS_d (x : D) : shrS (.d x) = .ok (.d x) := nrfl rfl
@[simp] theorem shrS_ol (x : List D) : shrS (.ol x) = .ok (.d (.list x)) := nrfl rfl
@[simp] theorem shrS_so (C : Str) (x : List (Str × D)) : shrS (.so C x) = .ok (.so C x) := nrfl rfl
@[simp] theorem npin_so (C : Str) (x : List (Str × D)) : SV.npin (.so C x) = true := nrfl rfl
@[simp] theorem chain3_ap : chain3 g1 g2 g3 fa fb fc fd ρ = (fa ρ >>= fun a => fb ρ >>= fun b => g1 a b >>= fun z => bool1 z >>= fun k =>
  if k = true then fc ρ >>= fun w => g2 b w >>= fun z2 => bool1 z2 >>= fun k2 => if k2 = true then fd ρ >>= fun u => g3 w u else .ok (.d (.bool false)) else .ok (.d (.bool false))) := nrfl rfl
@[simp] theorem idxE_ap : idxE fa fb ρ = (fa ρ >>= fun a => datL a >>= fun xs => fb ρ >>= idxS xs) := nrfl rfl
@[simp] theorem datL_l (xs : List D) : datL (.d (.list xs)) = .ok xs := nrfl rfl
@[simp] theorem datL_ol (xs : List D) : datL (.ol xs) = .ok xs := nrfl rfl
end
theorem runG_rt {n m : Nat} {b : En → R Fl} {rs : List SV} {r : SV} (h : b (startG m rs) = .ok (.rt r)) (hn : rs.length = n) : runG n m b rs = .ok r := by
  unfold runG
  rw [if_pos hn, h]; rfl
theorem runG_nx {n m : Nat} {b : En → R Fl} {rs : List SV} {ρ : En} (h : b (startG m rs) = .ok (.nx ρ)) (hn : rs.length = n) : runG n m b rs = .ok (.d .none) := by
  unfold runG
  rw [if_pos hn, h]; rfl
theorem runG_ex {n m k : Nat} {as : List D} {b : En → R Fl} {rs : List SV} (h : b (startG m rs) = .ex k as) (hn : rs.length = n) : runG n m b rs = .ex k as := by
  unfold runG
  rw [if_pos hn, h]; rfl
def NxR (z : R Fl) : Prop := ∃ ρ', z = .ok (.nx ρ')
theorem seq_nxr {f g : En → R Fl} {ρ ρ1 : En} (h : f ρ = .ok (.nx ρ1)) (h2 : NxR (g ρ1)) : NxR (seqS f g ρ) := by
  obtain ⟨ρ', e⟩ := h2
  exact ⟨ρ', seq_nx h e⟩
theorem nxr_end {f : En → R Fl} {ρ ρ1 : En} (h : f ρ = .ok (.nx ρ1)) : NxR (f ρ) := ⟨ρ1, h⟩
theorem runG_nxr {n m : Nat} {b : En → R Fl} {rs : List SV} (h : NxR (b (startG m rs))) (hn : rs.length = n) : runG n m b rs = .ok (.d .none) := by
  obtain ⟨ρ', e⟩ := h
  exact runG_nx e hn
/-- a loop over enumerate(xs) whose every turn goes through -/
theorem forF_enum {k : D → En → R En} {b : En → R Fl} (ρ : Nat → En) (es : List D) (H : ∀ (i : Nat) (e : D), es[i]? = some e → ∃ ρ1, k (.tuple [.int i, e]) (ρ i) = .ok ρ1 ∧ b ρ1 = .ok (.nx (ρ (i + 1)))) : forF k b (pairUp es) (ρ 0) = .ok (.nx (ρ es.length)) := by
  obtain ⟨ρ', h1, h2⟩ := forF_inv (k := k) (b := b) (fun i r => r = ρ i) (pairUp es) (ρ 0) rfl (by
    rintro i x _ hx rfl
    have hi : i < es.length := by
      have := (List.getElem?_eq_some_iff.mp hx).1
      rw [pairUp_len] at this; exact this
    have g := List.getElem?_eq_getElem hi
    rw [pairUp_at g] at hx
    cases hx
    obtain ⟨ρ1, a, c⟩ := H i _ g
    exact ⟨ρ1, _, a, .inl c, rfl⟩)
  rw [pairUp_len] at h2
  rw [h1, h2]
theorem pairUp_mem {xs : List D} {x : D} (h : x ∈ pairUp xs) : ∃ (i : Nat) (e : D), xs[i]? = some e ∧ x = .tuple [.int i, e] := by
  obtain ⟨i, hi⟩ := List.getElem?_of_mem h
  have hl : i < xs.length := by
    have := (List.getElem?_eq_some_iff.mp hi).1
    rw [pairUp_len] at this; exact this
  have g := List.getElem?_eq_getElem hl
  rw [pairUp_at g] at hi
  cases hi
  exact ⟨i, _, g, rfl⟩
end Pl
namespace Pl
open PySem PySem.Spec PyProof.Rows L2
/-! ### texts that are good -/
abbrev wch : Str := "abcdefghijklmnopqrstuvwxyz0123456789_"
abbrev ltr : Str := "abcdefghijklmnopqrstuvwxyz"
abbrev dig : Str := "0123456789_"
theorem wch_split : wch.cps.toList = ltr.cps.toList ++ dig.cps.toList := by decide +kernel
def rowV (t : Str) : Bool := decide (1 ≤ t.length ∧ t.length ≤ 20) && t.cps.toList.all fun n => decide (n ∈ wch.cps.toList)
def headL (t : Str) : Bool := match t.cps.toList with
  | n :: _ => decide (n ∈ ltr.cps.toList)
  | [] => false
def rowN (t : Str) : Bool := rowV t && headL t
theorem len_cps (t : Str) : t.cps.toList.length = t.length := rfl
theorem empty_len (t : Str) : (t = "") ↔ t.length = 0 := by
  constructor
  · rintro rfl; rfl
  · intro h
    obtain ⟨a⟩ := t
    have : a = #[] := Array.size_eq_zero_iff.mp h
    subst this; rfl
theorem rowV_ne {t : Str} (h : rowV t = true) : t ≠ "" := by
  unfold rowV at h
  rw [Bool.and_eq_true, decide_eq_true_eq] at h
  intro e
  have := (empty_len t).mp e
  omega

def chrA (z : Str) (j : Nat) : Str := ⟨#[z.cps.toList.getD j 0]⟩
theorem ixS_sj (z : Str) (j : Nat) (h : z.length ≤ 1000) (hj : j < z.length) : ixS (.d (.str z)) (.d (.int j)) = .ok (.d (.str (chrA z j))) := by
  have hz := line16
  have hl : j < z.cps.toList.length := hj
  have e := atI_cast z.cps.toList j
  rw [List.getElem?_eq_getElem hl] at e
  show (if z.length ≤ sizeLine then _ else _) = _
  rw [if_pos (by omega), e]
  unfold chrA
  rw [List.getD_eq_getElem?_getD, List.getElem?_eq_getElem hl]; rfl
def wordW (p j : Nat) : Str := cutS "xyz" none (some (p : Int)) ++ chrA "abcdefghijklmnopqrstuvwxyz" j ++ cutS "xyzw" (some (p : Int)) none
theorem wordW_good : ∀ p : Fin 4, ∀ j : Fin 26, rowN (wordW p j) = true ∧ (wordW p j).length = 5 := by decide +kernel
theorem wordW_inj : ∀ p : Fin 4, ∀ j k : Fin 26, wordW p j = wordW p k → j = k := by decide +kernel
def worthW (p j : Nat) : Str := cutS "v7_" none (some (p : Int)) ++ chrA "0123456789_abcdefghijklmnopqrstuvwxyz" j ++ cutS "0_" (some (p : Int)) none
theorem worthW_good : ∀ p : Fin 3, ∀ j : Fin 37, rowV (worthW p j) = true ∧ (worthW p j).length ≤ 8 := by decide +kernel
def wordsL (c m : Int) : List Str := (irng 0 m).map fun k => wordW (c / 26 % 4).toNat ((c + 3 * k) % 26).toNat
theorem wordsL_mem {c m : Int} {w : Str} (h : w ∈ wordsL c m) : rowN w = true ∧ w.length = 5 := by
  obtain ⟨k, _, rfl⟩ := List.mem_map.mp h
  exact wordW_good ⟨(c / 26 % 4).toNat, by omega⟩ ⟨((c + 3 * k) % 26).toNat, by omega⟩
theorem wordsL_len (c m : Int) : (wordsL c m).length = m.toNat := by unfold wordsL; rw [List.length_map, irng_len]; congr 1; omega
theorem nodup_mapI {α β : Type} {f : α → β} {l : List α} (h : l.Nodup) (inj : ∀ a ∈ l, ∀ b ∈ l, f a = f b → a = b) : (l.map f).Nodup :=
  List.pairwise_map.mpr (List.Pairwise.imp_of_mem (fun ha hb hne e => hne (inj _ ha _ hb e)) h)
theorem wordsL_nodup (c m : Int) (hm : m ≤ 26) : (wordsL c m).Nodup := by
  unfold wordsL irng
  rw [List.map_map]
  refine nodup_mapI List.nodup_range ?_
  intro i hi j hj e
  have hi' := List.mem_range.mp hi
  have hj' := List.mem_range.mp hj
  have := wordW_inj ⟨(c / 26 % 4).toNat, by omega⟩ ⟨((c + 3 * (0 + (i : Nat))) % 26).toNat, by omega⟩ ⟨((c + 3 * (0 + (j : Nat))) % 26).toNat, by omega⟩ e
  have h2 : ((c + 3 * (0 + (i : Nat))) % 26).toNat = ((c + 3 * (0 + (j : Nat))) % 26).toNat := congrArg Fin.val this
  omega
end Pl
/-! PmG: simp lemmas for PlM's forms. -/
namespace Pl
open PySem PySem.Spec PyProof.Rows L2
/-- str(n) -/
def txtI (i : Int) : Str := toString i
section
variable {ρ : En} {i j : Nat} {f g : En → R SV} {fx : En → R (D × En)} {gj : Str → En → R Str} {acc : Str}
@[simp] theorem strS_i (a : Int) : strS [.d (.int a)] = if okB a = true then .ok (.d (.str (txtI a))) else .bad := nrfl rfl
@[simp] theorem strS_s (a : Str) : strS [.d (.str a)] = .ok (.d (.str a)) := nrfl rfl
@[simp] theorem ordS_s (x : Str) : ordS [.d (.str x)] = if x.length = 1 then .ok (.d (.int (x.cps.getD 0 0 : Nat))) else .bad := nrfl rfl
@[simp] theorem txtS_s (x : Str) : txtS (.d (.str x)) = .ok x := nrfl rfl
@[simp] theorem joinE_ap : joinE f g ρ = (f ρ >>= fun r => txtS r >>= fun a => g ρ >>= joinS a) := nrfl rfl
@[simp] theorem wordsE_ap : wordsE f ρ = (f ρ >>= fun r => txtS r >>= fun a => if a.length + 2 ≤ sizeLine then .ok (.ol ((Txt.words a).map PyData.str)) else .bad) := nrfl rfl
@[simp] theorem stwE_ap : stwE f g ρ = (f ρ >>= fun r => txtS r >>= fun a => g ρ >>= fun r2 => txtS r2 >>= fun b => .ok (.d (.bool (Txt.startswith a b)))) := nrfl rfl
@[simp] theorem popX_ap : popX i ρ = (match ρ[i]? with
  | some (some (.ol xs)) => (match xs[xs.length - 1]? with
    | some d => .ok (d, ρ.set i (some (.ol xs.dropLast)))
    | none => .bad)
  | _ => .bad) := nrfl rfl
@[simp] theorem popAtX_ap : popAtX i f ρ = (match ρ[i]?, f ρ with
  | some (some (.ol xs)), .ok (.d (.int k)) => if 0 ≤ k ∧ k < 1000000 then (match xs[k.toNat]? with
    | some d => .ok (d, ρ.set i (some (.ol (xs.eraseIdx k.toNat))))
    | none => .bad) else .bad
  | _, _ => .bad) := nrfl rfl
@[simp] theorem asgX_ap : asgX j fx ρ = (match fx ρ with
  | .ok p => .ok (.nx (p.2.set j (some (.d p.1))))
  | _ => .bad) := nrfl rfl
@[simp] theorem dropX_ap : dropX fx ρ = (match fx ρ with
  | .ok p => .ok (.nx p.2)
  | _ => .bad) := nrfl rfl
@[simp] theorem appX_ap : appX i fx ρ = (match ρ[i]?, fx ρ with
  | some (some (.ol _)), .ok p => (match p.2[i]? with
    | some (some (.ol xs)) => if xs.length < sizeLine then .ok (.nx (p.2.set i (some (.ol (xs ++ [p.1]))))) else .bad
    | _ => .bad)
  | _, _ => .bad) := nrfl rfl
@[simp] theorem fmtE_ap : fmtE f ρ = (f ρ >>= fun r => match r with
  | .d (.str y) => if y.length ≤ sizeLine then .ok (.d (.str y)) else .bad
  | .d (.int i) => if okB i = true then .ok (.d (.str (txtI i))) else .bad
  | _ => .bad) := nrfl rfl
@[simp] theorem jN_ap : jN acc ρ = .ok acc := nrfl rfl
@[simp] theorem jC_ap : jC f gj acc ρ = (f ρ >>= fun r => txtS r >>= fun y => if (acc ++ y).length ≤ sizeLine then gj (acc ++ y) ρ else .bad) := nrfl rfl
@[simp] theorem joinedE_ap : joinedE gj ρ = (gj Str.empty ρ >>= fun out => .ok (.d (.str out))) := nrfl rfl
end
theorem strsD_map : ∀ ys : List Str, strsD (ys.map PyData.str) = some ys
  | [] => rfl
  | y :: ys => by
    show (strsD (ys.map PyData.str)).map (y :: ·) = _
    rw [strsD_map ys]; rfl
theorem joinS_ol (a : Str) (ys : List Str) (h : (ys.map Str.length).sum + ys.length * a.length ≤ 16777216) : joinS a (.ol (ys.map PyData.str)) = .ok (.d (.str (Txt.join a ys))) := by
  show (match strsD (ys.map PyData.str) with
    | some ys => if (ys.map Str.length).sum + ys.length * a.length ≤ 16777216 then R.ok (SV.d (.str (Txt.join a ys))) else .bad
    | none => .bad) = _
  rw [strsD_map]
  simp only [h, if_true]
theorem joinS_l (a : Str) (ys : List Str) (h : (ys.map Str.length).sum + ys.length * a.length ≤ 16777216) : joinS a (.d (.list (ys.map PyData.str))) = .ok (.d (.str (Txt.join a ys))) := by
  show (match strsD (ys.map PyData.str) with
    | some ys => if (ys.map Str.length).sum + ys.length * a.length ≤ 16777216 then R.ok (SV.d (.str (Txt.join a ys))) else .bad
    | none => .bad) = _
  rw [strsD_map]
  simp only [h, if_true]
end Pl
namespace K22
open PySem PySem.Spec PyProof.Rows L2 Pl

/-! ### the text -/
def topS (i : Nat) : Stmt := PySem.Challenge.pw_watchfloor_k22_store_blocks_read_back.main.body.getD i (.Pass ⟨0, 0, 0, 0⟩)
abbrev s_is_value : Stmt := topS 7
theorem sc_is_value : FnScope ["text", "char"] ["text"] (defScope s_is_value) := ⟨rfl, rfl, rfl, by decide +kernel, rfl, by decide +kernel, by decide +kernel⟩
abbrev s_is_name : Stmt := topS 8
theorem sc_is_name : FnScope ["text"] ["text"] (defScope s_is_name) := ⟨rfl, rfl, rfl, by decide +kernel, rfl, by decide +kernel, by decide +kernel⟩
abbrev s_put_number : Stmt := topS 10
theorem sc_put_number : FnScope ["n", "data"] ["n"] (defScope s_put_number) := ⟨rfl, rfl, rfl, by decide +kernel, rfl, by decide +kernel, by decide +kernel⟩
abbrev s_put_integer : Stmt := topS 11
theorem sc_put_integer : FnScope ["n"] ["n"] (defScope s_put_integer) := ⟨rfl, rfl, rfl, by decide +kernel, rfl, by decide +kernel, by decide +kernel⟩
abbrev s_put_text : Stmt := topS 12
theorem sc_put_text : FnScope ["text", "data", "char"] ["text"] (defScope s_put_text) := ⟨rfl, rfl, rfl, by decide +kernel, rfl, by decide +kernel, by decide +kernel⟩
abbrev s_put_labels : Stmt := topS 13
theorem sc_put_labels : FnScope ["labels", "data", "name", "value"] ["labels"] (defScope s_put_labels) := ⟨rfl, rfl, rfl, by decide +kernel, rfl, by decide +kernel, by decide +kernel⟩
abbrev s_take_number : Stmt := topS 14
theorem sc_take_number : FnScope ["data", "at", "n", "weight"] ["data", "at"] (defScope s_take_number) := ⟨rfl, rfl, rfl, by decide +kernel, rfl, by decide +kernel, by decide +kernel⟩
abbrev s_take_integer : Stmt := topS 15
theorem sc_take_integer : FnScope ["data", "at", "taken", "n", "end"] ["data", "at"] (defScope s_take_integer) := ⟨rfl, rfl, rfl, by decide +kernel, rfl, by decide +kernel, by decide +kernel⟩
abbrev s_char_at : Stmt := topS 16
theorem sc_char_at : FnScope ["place", "char"] ["place"] (defScope s_char_at) := ⟨rfl, rfl, rfl, by decide +kernel, rfl, by decide +kernel, by decide +kernel⟩
abbrev s_take_text : Stmt := topS 17
theorem sc_take_text : FnScope ["data", "at", "taken", "size", "text", "char"] ["data", "at"] (defScope s_take_text) := ⟨rfl, rfl, rfl, by decide +kernel, rfl, by decide +kernel, by decide +kernel⟩
abbrev s_take_labels : Stmt := topS 18
theorem sc_take_labels : FnScope ["data", "at", "taken", "size", "pairs", "name", "value"] ["data", "at"] (defScope s_take_labels) := ⟨rfl, rfl, rfl, by decide +kernel, rfl, by decide +kernel, by decide +kernel⟩
abbrev s_are_plain_labels : Stmt := topS 23
theorem sc_are_plain_labels : FnScope ["labels", "before", "name", "value"] ["labels"] (defScope s_are_plain_labels) := ⟨rfl, rfl, rfl, by decide +kernel, rfl, by decide +kernel, by decide +kernel⟩
abbrev s_is_plain : Stmt := topS 24
theorem sc_is_plain : FnScope ["sample", "labels", "time", "value"] ["sample"] (defScope s_is_plain) := ⟨rfl, rfl, rfl, by decide +kernel, rfl, by decide +kernel, by decide +kernel⟩
abbrev s_series_of : Stmt := topS 25
theorem sc_series_of : FnScope ["view", "series", "labels", "time", "value"] ["view"] (defScope s_series_of) := ⟨rfl, rfl, rfl, by decide +kernel, rfl, by decide +kernel, by decide +kernel⟩
abbrev s_spread : Stmt := topS 26
theorem sc_spread : FnScope ["series", "view", "labels", "points", "time", "value"] ["series"] (defScope s_spread) := ⟨rfl, rfl, rfl, by decide +kernel, rfl, by decide +kernel, by decide +kernel⟩
abbrev s_put_points : Stmt := topS 28
theorem sc_put_points : FnScope ["start", "points", "data", "least", "before", "time", "value"] ["start", "points"] (defScope s_put_points) := ⟨rfl, rfl, rfl, by decide +kernel, rfl, by decide +kernel, by decide +kernel⟩
abbrev s_put_block : Stmt := topS 29
theorem sc_put_block : FnScope ["block", "start", "width", "series", "data", "labels", "points"] ["block"] (defScope s_put_block) := ⟨rfl, rfl, rfl, by decide +kernel, rfl, by decide +kernel, by decide +kernel⟩
abbrev s_take_points : Stmt := topS 30
theorem sc_take_points : FnScope ["data", "at", "start", "many", "points", "least", "before", "later", "change", "time"] ["data", "at", "start", "many"] (defScope s_take_points) := ⟨rfl, rfl, rfl, by decide +kernel, rfl, by decide +kernel, by decide +kernel⟩
abbrev s_take_series : Stmt := topS 31
theorem sc_take_series : FnScope ["data", "at", "start", "labels", "many", "points"] ["data", "at", "start"] (defScope s_take_series) := ⟨rfl, rfl, rfl, by decide +kernel, rfl, by decide +kernel, by decide +kernel⟩
abbrev s_take_all_series : Stmt := topS 32
theorem sc_take_all_series : FnScope ["data", "at", "start", "many", "series", "taken"] ["data", "at", "start"] (defScope s_take_all_series) := ⟨rfl, rfl, rfl, by decide +kernel, rfl, by decide +kernel, by decide +kernel⟩
abbrev s_is_block : Stmt := topS 33
theorem sc_is_block : FnScope ["block", "start", "width", "series", "at", "labels", "points", "time", "value"] ["block"] (defScope s_is_block) := ⟨rfl, rfl, rfl, by decide +kernel, rfl, by decide +kernel, by decide +kernel⟩
abbrev s_take_block : Stmt := topS 34
theorem sc_take_block : FnScope ["data", "start", "width", "series"] ["data"] (defScope s_take_block) := ⟨rfl, rfl, rfl, by decide +kernel, rfl, by decide +kernel, by decide +kernel⟩
abbrev s_block_of : Stmt := topS 35
theorem sc_block_of : FnScope ["start", "width", "view", "inside", "sample"] ["start", "width", "view"] (defScope s_block_of) := ⟨rfl, rfl, rfl, by decide +kernel, rfl, by decide +kernel, by decide +kernel⟩
abbrev s_samples_of : Stmt := topS 36
theorem sc_samples_of : FnScope ["block"] ["block"] (defScope s_samples_of) := ⟨rfl, rfl, rfl, by decide +kernel, rfl, by decide +kernel, by decide +kernel⟩
abbrev s_law_cell : Stmt := topS 38
theorem sc_law_cell : FnScope ["_law_script", "_law_k"] ["_law_script", "_law_k"] (defScope s_law_cell) := ⟨rfl, rfl, rfl, by decide +kernel, rfl, by decide +kernel, by decide +kernel⟩
abbrev s_law_draws : Stmt := topS 39
theorem sc_law_draws : FnScope ["_law_cell_here", "_law_many", "_law_rows", "_law_rest", "_law_k", "_law_state"] ["_law_cell_here", "_law_many"] (defScope s_law_draws) := ⟨rfl, rfl, rfl, by decide +kernel, rfl, by decide +kernel, by decide +kernel⟩
abbrev s_law_name : Stmt := topS 40
theorem sc_law_name : FnScope ["_law_first", "_law_second", "_law_letters_here", "_law_text"] ["_law_first", "_law_second"] (defScope s_law_name) := ⟨rfl, rfl, rfl, by decide +kernel, rfl, by decide +kernel, by decide +kernel⟩
abbrev s_law_worth : Stmt := topS 41
theorem sc_law_worth : FnScope ["_law_first", "_law_second", "_law_letters_here", "_law_text"] ["_law_first", "_law_second"] (defScope s_law_worth) := ⟨rfl, rfl, rfl, by decide +kernel, rfl, by decide +kernel, by decide +kernel⟩
abbrev s_law_names : Stmt := topS 42
theorem sc_law_names : FnScope ["_law_cell_here", "_law_many", "_law_draws_here", "_law_k"] ["_law_cell_here", "_law_many"] (defScope s_law_names) := ⟨rfl, rfl, rfl, by decide +kernel, rfl, by decide +kernel, by decide +kernel⟩
abbrev s_law_worths : Stmt := topS 43
theorem sc_law_worths : FnScope ["_law_cell_here", "_law_many", "_law_draws_here", "_law_k"] ["_law_cell_here", "_law_many"] (defScope s_law_worths) := ⟨rfl, rfl, rfl, by decide +kernel, rfl, by decide +kernel, by decide +kernel⟩
abbrev s_law_labels : Stmt := topS 44
theorem sc_law_labels : FnScope ["_law_draws_here", "_law_names_here", "_law_worths_here", "_law_pairs", "_law_used", "_law_k", "_law_name_here"] ["_law_draws_here", "_law_names_here", "_law_worths_here"] (defScope s_law_labels) := ⟨rfl, rfl, rfl, by decide +kernel, rfl, by decide +kernel, by decide +kernel⟩
abbrev s_law_number : Stmt := topS 45
theorem sc_law_number : FnScope ["_law_first", "_law_second", "_law_small"] ["_law_first", "_law_second"] (defScope s_law_number) := ⟨rfl, rfl, rfl, by decide +kernel, rfl, by decide +kernel, by decide +kernel⟩
abbrev s_law_block : Stmt := topS 46
theorem sc_law_block : FnScope ["_law_script", "_law_names_here", "_law_worths_here", "_law_draws_here", "_law_start", "_law_width", "_law_found", "_law_cell_here", "_law_part", "_law_labels_here", "_law_time", "_law_key"] ["_law_script", "_law_names_here", "_law_worths_here"] (defScope s_law_block) := ⟨rfl, rfl, rfl, by decide +kernel, rfl, by decide +kernel, by decide +kernel⟩
abbrev s_law_series : Stmt := topS 47
theorem sc_law_series : FnScope ["_law_samples", "_law_rows", "_law_labels_here", "_law_time", "_law_worth_here"] ["_law_samples"] (defScope s_law_series) := ⟨rfl, rfl, rfl, by decide +kernel, rfl, by decide +kernel, by decide +kernel⟩
abbrev s_law_groups : Stmt := topS 48
theorem sc_law_groups : FnScope ["_law_n", "_law_rows", "_law_k"] ["_law_n"] (defScope s_law_groups) := ⟨rfl, rfl, rfl, by decide +kernel, rfl, by decide +kernel, by decide +kernel⟩
abbrev s_law_letters : Stmt := topS 49
theorem sc_law_letters : FnScope ["_law_text", "_law_sign"] ["_law_text"] (defScope s_law_letters) := ⟨rfl, rfl, rfl, by decide +kernel, rfl, by decide +kernel, by decide +kernel⟩
abbrev s_law_labels_bytes : Stmt := topS 50
theorem sc_law_labels_bytes : FnScope ["_law_labels_here", "_law_rows", "_law_name_here", "_law_worth_here"] ["_law_labels_here"] (defScope s_law_labels_bytes) := ⟨rfl, rfl, rfl, by decide +kernel, rfl, by decide +kernel, by decide +kernel⟩
abbrev s_law_integer_bytes : Stmt := topS 51
theorem sc_law_integer_bytes : FnScope ["_law_i"] ["_law_i"] (defScope s_law_integer_bytes) := ⟨rfl, rfl, rfl, by decide +kernel, rfl, by decide +kernel, by decide +kernel⟩
abbrev s_law_block_bytes : Stmt := topS 52
theorem sc_law_block_bytes : FnScope ["_law_start", "_law_width", "_law_samples", "_law_series_here", "_law_rows", "_law_labels_here", "_law_points", "_law_least", "_law_before", "_law_time", "_law_worth_here"] ["_law_start", "_law_width", "_law_samples"] (defScope s_law_block_bytes) := ⟨rfl, rfl, rfl, by decide +kernel, rfl, by decide +kernel, by decide +kernel⟩
abbrev s_law : Stmt := topS 53
theorem sc_law : FnScope ["_law_script", "_law_names_here", "_law_worths_here", "_law_start", "_law_width", "_law_samples", "_law_outside", "_law_view", "_law_actual", "_law_data"] ["_law_script"] (defScope s_law) := ⟨rfl, rfl, rfl, by decide +kernel, rfl, by decide +kernel, by decide +kernel⟩
/-! ### the plain functions -/
def is_value_w1 : En → R Fl :=
    (kill [1] (ifS (asT (bin (inS true) (peek 1) (kon (.str "abcdefghijklmnopqrstuvwxyz0123456789_")))) (retS (kon (.bool false))) skip))
def is_value_b : En → R Fl :=
    (seqS (ifS (orT (asT (bin (eqS false) (peek 0) (kon (.str "")))) (asT (bin gtS (callB lenS (conB (peek 0) nilB)) (kon (.int 20))))) (retS (kon (.bool false))) skip)
    (seqS (forS (seqD (getV 0)) (setD 1) is_value_w1)
    (retS (kon (.bool true)))))
def is_value_f : List D → R SV := runB 1 2 is_value_b
def is_name_b : En → R Fl :=
    (retS (andV (callF 1 is_value_f (conA (getV 0) nilA)) (bin (inS false) (bin ixS (peek 0) (kon (.int 0))) (kon (.str "abcdefghijklmnopqrstuvwxyz")))))
def is_name_f : List D → R SV := runB 1 1 is_name_b
def put_number_w1 : En → R Fl :=
    (seqS (appS 1 (bin addS (bin modS (callB intS (conB (peek 0) nilB)) (kon (.int 128))) (kon (.int 128))))
    (asgS 0 (bin fdivS (peek 0) (kon (.int 128)))))
def put_number_t1 : En → R Bool :=
    (asT (bin geS (peek 0) (kon (.int 128))))
def put_number_b : En → R Fl :=
    (seqS (asgS 1 (dispL nilA))
    (seqS (whileS fuel put_number_t1 put_number_w1)
    (seqS (appS 1 (getV 0))
    (retV 1))))
def put_number_f : List D → R SV := runB 1 2 put_number_b
def put_integer_b : En → R Fl :=
    (seqS (ifS (asT (bin geS (peek 0) (kon (.int 0)))) (retS (callF 1 put_number_f (conA (bin mulA (kon (.int 2)) (peek 0)) nilA))) skip)
    (retS (callF 1 put_number_f (conA (bin subS (bin mulA (una negS (kon (.int 2))) (peek 0)) (kon (.int 1))) nilA))))
def put_integer_f : List D → R SV := runB 1 1 put_integer_b
def put_text_w1 : En → R Fl :=
    (kill [2] (asgS 1 (bin addS (peek 1) (callF 1 put_number_f (conA (callB ordS (conB (peek 2) nilB)) nilA)))))
def put_text_b : En → R Fl :=
    (seqS (asgS 1 (callF 1 put_number_f (conA (callB lenS (conB (peek 0) nilB)) nilA)))
    (seqS (forS (seqD (getV 0)) (setD 2) put_text_w1)
    (retV 1)))
def put_text_f : List D → R SV := runB 1 3 put_text_b
def put_labels_w1 : En → R Fl :=
    (kill [2, 3] (asgS 1 (bin addS (bin addS (peek 1) (callF 1 put_text_f (conA (getV 2) nilA))) (callF 1 put_text_f (conA (getV 3) nilA)))))
def put_labels_b : En → R Fl :=
    (seqS (asgS 1 (callF 1 put_number_f (conA (callB lenS (conB (peek 0) nilB)) nilA)))
    (seqS (forS (seqD (getV 0)) (tupG 2 (gsC (setD 2) (gsC (setD 3) gsN))) put_labels_w1)
    (retV 1)))
def put_labels_f : List D → R SV := runB 1 4 put_labels_b
def take_number_w1 : En → R Fl :=
    (seqS (asgS 2 (bin addS (peek 2) (bin mulA (peek 3) (bin subS (bin ixS (peek 0) (peek 1)) (kon (.int 128))))))
    (seqS (asgS 3 (bin mulA (peek 3) (kon (.int 128))))
    (asgS 1 (bin addS (peek 1) (kon (.int 1))))))
def take_number_t1 : En → R Bool :=
    (andT (asT (bin ltS (peek 1) (callB lenS (conB (peek 0) nilB)))) (asT (bin geS (bin ixS (peek 0) (peek 1)) (kon (.int 128)))))
def take_number_b : En → R Fl :=
    (seqS (asgS 2 (kon (.int 0)))
    (seqS (asgS 3 (kon (.int 1)))
    (seqS (whileS fuel take_number_t1 take_number_w1)
    (seqS (ifS (orT (asT (bin geS (peek 1) (callB lenS (conB (peek 0) nilB)))) (andT (asT (bin (eqS false) (bin ixS (peek 0) (peek 1)) (kon (.int 0)))) (asT (bin gtS (peek 3) (kon (.int 1)))))) (retS (kon .none)) skip)
    (retS (dispT (conA (bin addS (peek 2) (bin mulA (peek 3) (bin ixS (peek 0) (peek 1)))) (conA (bin addS (peek 1) (kon (.int 1))) nilA))))))))
def take_number_f : List D → R SV := runB 2 4 take_number_b
def take_integer_b : En → R Fl :=
    (seqS (asgS 2 (callF 2 take_number_f (conA (getV 0) (conA (getV 1) nilA))))
    (seqS (ifS (asT (bin (isnS false) (peek 2) (kon .none))) (retS (kon .none)) skip)
    (seqS (frzS [2] (asgG (tupG 2 (gsC (setD 3) (gsC (setD 4) gsN))) (getV 2)))
    (seqS (ifS (asT (bin (eqS false) (bin modS (callB intS (conB (peek 3) nilB)) (kon (.int 2))) (kon (.int 0)))) (retS (dispT (conA (bin fdivS (peek 3) (kon (.int 2))) (conA (getV 4) nilA)))) skip)
    (retS (dispT (conA (una negS (bin fdivS (bin addS (peek 3) (kon (.int 1))) (kon (.int 2)))) (conA (getV 4) nilA))))))))
def take_integer_f : List D → R SV := runB 2 5 take_integer_b
def char_at_w1 : En → R Fl :=
    (kill [1] (ifS (asT (bin (eqS false) (callB ordS (conB (peek 1) nilB)) (peek 0))) (retV 1) skip))
def char_at_b : En → R Fl :=
    (seqS (forS (seqD (kon (.str "abcdefghijklmnopqrstuvwxyz0123456789_"))) (setD 1) char_at_w1)
    (retS (kon .none)))
def char_at_f : List D → R SV := runB 1 2 char_at_b
def take_text_w1 : En → R Fl :=
    (kill [5] (seqS (asgS 2 (callF 2 take_number_f (conA (getV 0) (conA (getV 1) nilA))))
    (seqS (ifS (asT (bin (isnS false) (peek 2) (kon .none))) (retS (kon .none)) skip)
    (seqS (asgS 5 (callF 1 char_at_f (conA (bin ixS (peek 2) (kon (.int 0))) nilA)))
    (seqS (ifS (asT (bin (isnS false) (peek 5) (kon .none))) (retS (kon .none)) skip)
    (seqS (asgS 4 (bin addS (peek 4) (peek 5)))
    (asgS 1 (bin ixS (peek 2) (kon (.int 1))))))))))
def take_text_t1 : En → R Bool :=
    (asT (bin ltS (callB lenS (conB (peek 4) nilB)) (peek 3)))
def take_text_b : En → R Fl :=
    (seqS (asgS 2 (callF 2 take_number_f (conA (getV 0) (conA (getV 1) nilA))))
    (seqS (ifS (asT (bin (isnS false) (peek 2) (kon .none))) (retS (kon .none)) skip)
    (seqS (frzS [2] (asgG (tupG 2 (gsC (setD 3) (gsC (setD 1) gsN))) (getV 2)))
    (seqS (asgS 4 (kon (.str "")))
    (seqS (whileS fuel take_text_t1 take_text_w1)
    (frzS [4] (retS (dispT (conA (getV 4) (conA (getV 1) nilA))))))))))
def take_text_f : List D → R SV := runB 2 6 take_text_b
def take_labels_w1 : En → R Fl :=
    (kill [5, 6] (seqS (asgS 5 (callF 2 take_text_f (conA (getV 0) (conA (getV 1) nilA))))
    (seqS (ifS (asT (bin (isnS false) (peek 5) (kon .none))) (retS (kon .none)) skip)
    (seqS (asgS 6 (callF 2 take_text_f (conA (getV 0) (conA (bin ixS (peek 5) (kon (.int 1))) nilA))))
    (seqS (ifS (asT (bin (isnS false) (peek 6) (kon .none))) (retS (kon .none)) skip)
    (seqS (appS 4 (dispT (conA (bin ixS (peek 5) (kon (.int 0))) (conA (bin ixS (peek 6) (kon (.int 0))) nilA))))
    (asgS 1 (bin ixS (peek 6) (kon (.int 1))))))))))
def take_labels_t1 : En → R Bool :=
    (asT (bin ltS (callB lenS (conB (peek 4) nilB)) (peek 3)))
def take_labels_b : En → R Fl :=
    (seqS (asgS 2 (callF 2 take_number_f (conA (getV 0) (conA (getV 1) nilA))))
    (seqS (ifS (asT (bin (isnS false) (peek 2) (kon .none))) (retS (kon .none)) skip)
    (seqS (frzS [2] (asgG (tupG 2 (gsC (setD 3) (gsC (setD 1) gsN))) (getV 2)))
    (seqS (asgS 4 (dispL nilA))
    (seqS (whileS fuel take_labels_t1 take_labels_w1)
    (retS (dispT (conA (callB tupS (conB (peek 4) nilB)) (conA (getV 1) nilA)))))))))
def take_labels_f : List D → R SV := runB 2 7 take_labels_b
def are_plain_labels_w1 : En → R Fl :=
    (kill [2, 3] (seqS (ifS (orT (notT (tru (callF 1 is_name_f (conA (getV 2) nilA)))) (orT (notT (tru (callF 1 is_value_f (conA (getV 3) nilA)))) (asT (bin leS (peek 2) (peek 1))))) (retS (kon (.bool false))) skip)
    (asgS 1 (getV 2))))
def are_plain_labels_b : En → R Fl :=
    (seqS (ifS (asT (bin gtS (callB lenS (conB (peek 0) nilB)) (kon (.int 6)))) (retS (kon (.bool false))) skip)
    (seqS (asgS 1 (kon (.str "")))
    (seqS (forS (seqD (getV 0)) (tupG 2 (gsC (setD 2) (gsC (setD 3) gsN))) are_plain_labels_w1)
    (retS (kon (.bool true))))))
def are_plain_labels_f : List D → R SV := runB 1 4 are_plain_labels_b
def is_plain_b : En → R Fl :=
    (seqS (asgG (tupG 3 (gsC (setD 1) (gsC (setD 2) (gsC (setD 3) gsN)))) (getV 0))
    (retS (andV (callF 1 are_plain_labels_f (conA (getV 1) nilA)) (andV (chain leS leS (kon (.int 0)) (peek 2) (kon (.int 10000))) (bin ltS (callB absS (conB (peek 3) nilB)) (kon (.int 1000000000000000)))))))
def is_plain_f : List D → R SV := runB 1 4 is_plain_b
def series_of_n1 : En → Rw → R (En × Rw) :=
    (killN 1 [2, 3, 4] (seqN (ifN (orN (notN' anyN) (asN (binN (eqS true) (lastN (una negS (kon (.int 1))) 0) (fun ρ _ => (peek 2) ρ)))) (newN (getV 2) nilA) skipN)
    (pushN (una negS (kon (.int 1))) 1 (dispT (conA (getV 3) (conA (getV 4) nilA))))))
def series_of_b : En → R Fl :=
    (seqS (asgS 1 (dispL nilA))
    (seqS (rowsS 1 (seqD (getV 0)) (tupG 3 (gsC (setD 2) (gsC (setD 3) (gsC (setD 4) gsN)))) series_of_n1)
    (retV 1)))
def series_of_f : List D → R SV := runB 1 5 series_of_b
def spread_w1 : En → R Fl :=
    (kill [4, 5] (appS 1 (dispT (conA (getV 2) (conA (getV 4) (conA (getV 5) nilA))))))
def spread_w2 : En → R Fl :=
    (kill [2, 3, 4, 5] (forS (seqD (getV 3)) (tupG 2 (gsC (setD 4) (gsC (setD 5) gsN))) spread_w1))
def spread_b : En → R Fl :=
    (seqS (asgS 1 (dispL nilA))
    (seqS (forS (seqD (getV 0)) (tupG 2 (gsC (setD 2) (gsC (setD 3) gsN))) spread_w2)
    (retV 1)))
def spread_f : List D → R SV := runB 1 6 spread_b
def put_points_w1 : En → R Fl :=
    (kill [5, 6] (seqS (asgS 2 (bin addS (bin addS (peek 2) (callF 1 put_number_f (conA (bin subS (peek 5) (peek 3)) nilA))) (callF 1 put_integer_f (conA (bin subS (peek 6) (peek 4)) nilA))))
    (seqS (asgS 3 (bin addS (peek 5) (kon (.int 1))))
    (asgS 4 (getV 6)))))
def put_points_b : En → R Fl :=
    (seqS (asgS 2 (dispL nilA))
    (seqS (asgS 3 (getV 0))
    (seqS (asgS 4 (kon (.int 0)))
    (seqS (forS (seqD (getV 1)) (tupG 2 (gsC (setD 5) (gsC (setD 6) gsN))) put_points_w1)
    (retV 2)))))
def put_points_f : List D → R SV := runB 2 7 put_points_b
def put_block_w1 : En → R Fl :=
    (kill [5, 6] (asgS 4 (bin addS (bin addS (bin addS (peek 4) (callF 1 put_labels_f (conA (getV 5) nilA))) (callF 1 put_number_f (conA (callB lenS (conB (peek 6) nilB)) nilA))) (callF 2 put_points_f (conA (getV 1) (conA (getV 6) nilA))))))
def put_block_b : En → R Fl :=
    (seqS (asgG (tupG 3 (gsC (setD 1) (gsC (setD 2) (gsC (setD 3) gsN)))) (getV 0))
    (seqS (asgS 4 (bin addS (bin addS (callF 1 put_number_f (conA (getV 1) nilA)) (callF 1 put_number_f (conA (getV 2) nilA))) (callF 1 put_number_f (conA (callB lenS (conB (peek 3) nilB)) nilA))))
    (seqS (forS (seqD (getV 3)) (tupG 2 (gsC (setD 5) (gsC (setD 6) gsN))) put_block_w1)
    (retV 4))))
def put_block_f : List D → R SV := runB 1 7 put_block_b
def take_points_w1 : En → R Fl :=
    (kill [7, 8, 9] (seqS (asgS 7 (callF 2 take_number_f (conA (getV 0) (conA (getV 1) nilA))))
    (seqS (ifS (asT (bin (isnS false) (peek 7) (kon .none))) (retS (kon .none)) skip)
    (seqS (asgS 8 (callF 2 take_integer_f (conA (getV 0) (conA (bin ixS (peek 7) (kon (.int 1))) nilA))))
    (seqS (ifS (asT (bin (isnS false) (peek 8) (kon .none))) (retS (kon .none)) skip)
    (seqS (asgS 9 (bin addS (peek 5) (bin ixS (peek 7) (kon (.int 0)))))
    (seqS (asgS 6 (bin addS (peek 6) (bin ixS (peek 8) (kon (.int 0)))))
    (seqS (frzS [6, 9] (appS 4 (dispT (conA (getV 9) (conA (getV 6) nilA)))))
    (seqS (asgS 5 (bin addS (peek 9) (kon (.int 1))))
    (asgS 1 (bin ixS (peek 8) (kon (.int 1)))))))))))))
def take_points_t1 : En → R Bool :=
    (asT (bin ltS (callB lenS (conB (peek 4) nilB)) (peek 3)))
def take_points_b : En → R Fl :=
    (seqS (asgS 4 (dispL nilA))
    (seqS (asgS 5 (getV 2))
    (seqS (asgS 6 (kon (.int 0)))
    (seqS (whileS fuel take_points_t1 take_points_w1)
    (frzS [4] (retS (dispT (conA (getV 4) (conA (getV 1) nilA)))))))))
def take_points_f : List D → R SV := runB 4 10 take_points_b
def take_series_b : En → R Fl :=
    (seqS (asgS 3 (callF 2 take_labels_f (conA (getV 0) (conA (getV 1) nilA))))
    (seqS (ifS (asT (bin (isnS false) (peek 3) (kon .none))) (retS (kon .none)) skip)
    (seqS (asgS 4 (callF 2 take_number_f (conA (getV 0) (conA (bin ixS (peek 3) (kon (.int 1))) nilA))))
    (seqS (ifS (asT (bin (isnS false) (peek 4) (kon .none))) (retS (kon .none)) skip)
    (seqS (asgS 5 (callF 4 take_points_f (conA (getV 0) (conA (bin ixS (peek 4) (kon (.int 1))) (conA (getV 2) (conA (bin ixS (peek 4) (kon (.int 0))) nilA))))))
    (seqS (ifS (asT (bin (isnS false) (peek 5) (kon .none))) (retS (kon .none)) skip)
    (retS (dispT (conA (dispT (conA (bin ixS (peek 3) (kon (.int 0))) (conA (bin ixS (peek 5) (kon (.int 0))) nilA))) (conA (bin ixS (peek 5) (kon (.int 1))) nilA))))))))))
def take_series_f : List D → R SV := runB 3 6 take_series_b
def take_all_series_w1 : En → R Fl :=
    (kill [5] (seqS (asgS 5 (callF 3 take_series_f (conA (getV 0) (conA (getV 1) (conA (getV 2) nilA)))))
    (seqS (ifS (asT (bin (isnS false) (peek 5) (kon .none))) (retS (kon .none)) skip)
    (seqS (appS 4 (bin ixS (peek 5) (kon (.int 0))))
    (asgS 1 (bin ixS (peek 5) (kon (.int 1))))))))
def take_all_series_t1 : En → R Bool :=
    (asT (bin ltS (callB lenS (conB (peek 4) nilB)) (bin ixS (peek 3) (kon (.int 0)))))
def take_all_series_b : En → R Fl :=
    (seqS (asgS 3 (callF 2 take_number_f (conA (getV 0) (conA (getV 1) nilA))))
    (seqS (ifS (asT (bin (isnS false) (peek 3) (kon .none))) (retS (kon .none)) skip)
    (seqS (asgS 1 (bin ixS (peek 3) (kon (.int 1))))
    (seqS (asgS 4 (dispL nilA))
    (seqS (whileS fuel take_all_series_t1 take_all_series_w1)
    (seqS (ifS (asT (bin (eqS true) (peek 1) (callB lenS (conB (peek 0) nilB)))) (retS (kon .none)) skip)
    (retV 4)))))))
def take_all_series_f : List D → R SV := runB 3 6 take_all_series_b
def is_block_w1 : En → R Fl :=
    (kill [7, 8] (ifS (orT (notT (asT (chain leS ltS (peek 1) (peek 7) (bin addS (peek 1) (peek 2))))) (notT (tru (callF 1 is_plain_f (conA (dispT (conA (getV 5) (conA (getV 7) (conA (getV 8) nilA)))) nilA))))) (retS (kon (.bool false))) skip))
def is_block_w2 : En → R Fl :=
    (kill [4, 5, 6, 7, 8] (seqS (ifS (orT (notT (tru (peek 6))) (andT (asT (bin gtS (peek 4) (kon (.int 0)))) (asT (bin geG (bin ixS (bin ixS (peek 3) (bin subS (peek 4) (kon (.int 1)))) (kon (.int 0))) (peek 5))))) (retS (kon (.bool false))) skip)
    (forS (seqD (getV 6)) (tupG 2 (gsC (setD 7) (gsC (setD 8) gsN))) is_block_w1)))
def is_block_b : En → R Fl :=
    (seqS (asgG (tupG 3 (gsC (setD 1) (gsC (setD 2) (gsC (setD 3) gsN)))) (getV 0))
    (seqS (ifS (orT (asT (bin ltS (peek 2) (kon (.int 1)))) (notT (tru (peek 3)))) (retS (kon (.bool false))) skip)
    (seqS (forS (enumD (getV 3)) (tupG 2 (gsC (setD 4) (gsC (tupG 2 (gsC (setD 5) (gsC (setD 6) gsN))) gsN))) is_block_w2)
    (retS (kon (.bool true))))))
def is_block_f : List D → R SV := runB 1 9 is_block_b
def take_block_b : En → R Fl :=
    (seqS (asgS 1 (callF 2 take_number_f (conA (getV 0) (conA (kon (.int 0)) nilA))))
    (seqS (ifS (asT (bin (isnS false) (peek 1) (kon .none))) (raiseS 0) skip)
    (seqS (asgS 2 (callF 2 take_number_f (conA (getV 0) (conA (bin ixS (peek 1) (kon (.int 1))) nilA))))
    (seqS (ifS (asT (bin (isnS false) (peek 2) (kon .none))) (raiseS 0) skip)
    (seqS (asgS 3 (callF 3 take_all_series_f (conA (getV 0) (conA (bin ixS (peek 2) (kon (.int 1))) (conA (bin ixS (peek 1) (kon (.int 0))) nilA)))))
    (seqS (frzS [3] (ifS (orT (asT (bin (isnS false) (peek 3) (kon .none))) (notT (tru (callF 1 is_block_f (conA (dispT (conA (bin ixS (peek 1) (kon (.int 0))) (conA (bin ixS (peek 2) (kon (.int 0))) (conA (getV 3) nilA)))) nilA))))) (raiseS 0) skip))
    (frzS [3] (retS (dispT (conA (bin ixS (peek 1) (kon (.int 0))) (conA (bin ixS (peek 2) (kon (.int 0))) (conA (getV 3) nilA))))))))))))
def take_block_f : List D → R SV := runB 1 4 take_block_b
def block_of_b : En → R Fl :=
    (seqS (asgS 3 (lcE (seqD (getV 2)) (setD 4) (asT (chain leS ltS (peek 0) (bin ixS (peek 4) (kon (.int 1))) (bin addS (peek 0) (peek 1)))) (getV 4) [4]))
    (seqS (ifS (notT (tru (peek 3))) (retS (kon .none)) skip)
    (frzS [3] (retS (dispT (conA (getV 0) (conA (getV 1) (conA (callF 1 series_of_f (conA (getV 3) nilA)) nilA))))))))
def block_of_f : List D → R SV := runB 3 5 block_of_b
def samples_of_b : En → R Fl :=
    (retS (callF 1 spread_f (conA (bin ixS (peek 0) (kon (.int 2))) nilA)))
def samples_of_f : List D → R SV := runB 1 1 samples_of_b
def law_cell_b : En → R Fl :=
    (seqS (ifS (asT (bin ltS (peek 1) (callB lenS (conB (peek 0) nilB)))) (retS (callB intS (conB (bin ixS (peek 0) (peek 1)) nilB))) skip)
    (retS (kon (.int 0))))
def law_cell_f : List D → R SV := runB 2 2 law_cell_b
def law_draws_w1 : En → R Fl :=
    (kill [4] (ifS (asT (bin gtS (peek 3) (kon (.int 0)))) (seqS (appS 2 (bin modS (callB intS (conB (peek 3) nilB)) (kon (.int 1000))))
    (asgS 3 (bin fdivS (peek 3) (kon (.int 1000))))) skip))
def law_draws_w2 : En → R Fl :=
    (kill [4] (seqS (asgS 5 (bin modS (callB intS (conB (bin addS (bin addS (bin mulA (peek 5) (kon (.int 48271))) (bin mulA (peek 4) (kon (.int 69621)))) (kon (.int 7))) nilB)) (kon (.int 2147483647))))
    (ifS (asT (bin ltS (callB lenS (conB (peek 2) nilB)) (peek 1))) (appS 2 (bin modS (callB intS (conB (bin modS (callB intS (conB (bin addS (bin mulA (peek 5) (kon (.int 69621))) (kon (.int 5))) nilB)) (kon (.int 2147483629))) nilB)) (kon (.int 1000)))) skip)))
def law_draws_b : En → R Fl :=
    (seqS (asgS 2 (dispL nilA))
    (seqS (asgS 3 (callB intS (conB (peek 0) nilB)))
    (seqS (ifS (asT (bin geS (peek 3) (bin powS (kon (.int 10)) (kon (.int 18))))) (forS (rngD1 (conB (peek 1) nilB)) (setD 4) law_draws_w1) skip)
    (seqS (asgS 5 (bin modS (callB intS (conB (bin addS (bin mulA (callB intS (conB (peek 0) nilB)) (kon (.int 48271))) (kon (.int 11))) nilB)) (kon (.int 2147483647))))
    (seqS (forS (rngD1 (conB (peek 1) nilB)) (setD 4) law_draws_w2)
    (retV 2))))))
def law_draws_f : List D → R SV := runB 2 6 law_draws_b
def law_name_b : En → R Fl :=
    (seqS (asgS 2 (kon (.str "abcdefghijklmnopqrstuvwxyz0123456789_")))
    (seqS (asgS 3 (bin ixS (peek 2) (bin modS (callB intS (conB (peek 0) nilB)) (kon (.int 26)))))
    (seqS (ifS (asT (bin (eqS false) (bin modS (callB intS (conB (peek 1) nilB)) (kon (.int 5))) (kon (.int 0)))) (retV 3) skip)
    (seqS (asgS 3 (bin addS (peek 3) (bin ixS (peek 2) (bin modS (bin fdivS (callB intS (conB (peek 1) nilB)) (kon (.int 5))) (kon (.int 37))))))
    (seqS (ifS (asT (bin (eqS false) (bin modS (callB intS (conB (peek 1) nilB)) (kon (.int 5))) (kon (.int 1)))) (retV 3) skip)
    (seqS (ifS (asT (bin (eqS false) (bin modS (callB intS (conB (peek 1) nilB)) (kon (.int 25))) (kon (.int 24)))) (retS (bin addS (bin addS (peek 3) (bin mulA (kon (.str "_")) (kon (.int 17)))) (bin ixS (peek 2) (bin modS (bin fdivS (callB intS (conB (peek 0) nilB)) (kon (.int 26))) (kon (.int 37)))))) skip)
    (retS (bin addS (peek 3) (bin ixS (peek 2) (bin modS (bin fdivS (callB intS (conB (peek 0) nilB)) (kon (.int 26))) (kon (.int 37))))))))))))
def law_name_f : List D → R SV := runB 2 4 law_name_b
def law_worth_b : En → R Fl :=
    (seqS (asgS 2 (kon (.str "0123456789_abcdefghijklmnopqrstuvwxyz")))
    (seqS (asgS 3 (bin ixS (peek 2) (bin modS (callB intS (conB (peek 0) nilB)) (kon (.int 37)))))
    (seqS (ifS (asT (bin (eqS false) (bin modS (callB intS (conB (peek 1) nilB)) (kon (.int 4))) (kon (.int 0)))) (retV 3) skip)
    (seqS (ifS (asT (bin (eqS false) (bin modS (callB intS (conB (peek 1) nilB)) (kon (.int 32))) (kon (.int 31)))) (retS (bin addS (bin mulA (peek 3) (kon (.int 19))) (bin ixS (peek 2) (bin modS (bin fdivS (callB intS (conB (peek 1) nilB)) (kon (.int 4))) (kon (.int 37)))))) skip)
    (retS (bin addS (peek 3) (bin ixS (peek 2) (bin modS (bin fdivS (callB intS (conB (peek 1) nilB)) (kon (.int 4))) (kon (.int 37))))))))))
def law_worth_f : List D → R SV := runB 2 4 law_worth_b
def law_names_b : En → R Fl :=
    (seqS (asgS 2 (callF 2 law_draws_f (conA (getV 0) (conA (bin mulA (kon (.int 2)) (peek 1)) nilA))))
    (retS (lcE (rngD1 (conB (peek 1) nilB)) (setD 3) yesT (callF 2 law_name_f (conA (bin ixS (peek 2) (bin mulA (kon (.int 2)) (peek 3))) (conA (bin ixS (peek 2) (bin addS (bin mulA (kon (.int 2)) (peek 3)) (kon (.int 1)))) nilA))) [3])))
def law_names_f : List D → R SV := runB 2 4 law_names_b
def law_worths_b : En → R Fl :=
    (seqS (asgS 2 (callF 2 law_draws_f (conA (getV 0) (conA (bin mulA (kon (.int 2)) (peek 1)) nilA))))
    (retS (lcE (rngD1 (conB (peek 1) nilB)) (setD 3) yesT (callF 2 law_worth_f (conA (bin ixS (peek 2) (bin mulA (kon (.int 2)) (peek 3))) (conA (bin ixS (peek 2) (bin addS (bin mulA (kon (.int 2)) (peek 3)) (kon (.int 1)))) nilA))) [3])))
def law_worths_f : List D → R SV := runB 2 4 law_worths_b
def law_labels_w1 : En → R Fl :=
    (kill [5, 6] (seqS (asgS 6 (bin ixS (peek 1) (bin modS (callB intS (conB (bin ixS (peek 0) (peek 5)) nilB)) (callB lenS (conB (peek 1) nilB)))))
    (ifS (asT (bin (inS true) (peek 6) (peek 4))) (seqS (appS 4 (getV 6))
    (appS 3 (dispT (conA (getV 6) (conA (bin ixS (peek 2) (bin modS (callB intS (conB (bin ixS (peek 0) (bin addS (peek 5) (kon (.int 1)))) nilB)) (callB lenS (conB (peek 2) nilB)))) nilA))))) skip)))
def law_labels_b : En → R Fl :=
    (seqS (asgS 3 (dispL nilA))
    (seqS (asgS 4 (dispL nilA))
    (seqS (forS (rngD3 (conB (kon (.int 0)) (conB (bin subS (callB lenS (conB (peek 0) nilB)) (kon (.int 1))) (conB (kon (.int 2)) nilB)))) (setD 5) law_labels_w1)
    (retS (callB tupS (conB (callB sortedS (conB (peek 3) nilB)) nilB))))))
def law_labels_f : List D → R SV := runB 3 7 law_labels_b
def law_number_b : En → R Fl :=
    (seqS (asgS 2 (bin modS (callB intS (conB (peek 0) nilB)) (kon (.int 7))))
    (seqS (ifS (asT (bin (eqS false) (bin modS (callB intS (conB (peek 1) nilB)) (kon (.int 3))) (kon (.int 0)))) (retV 2) skip)
    (seqS (ifS (asT (bin (eqS false) (bin modS (callB intS (conB (peek 1) nilB)) (kon (.int 3))) (kon (.int 1)))) (retS (bin subS (bin subS (kon (.int 0)) (peek 2)) (bin modS (bin fdivS (callB intS (conB (peek 1) nilB)) (kon (.int 3))) (kon (.int 200))))) skip)
    (seqS (ifS (asT (bin (eqS false) (bin modS (callB intS (conB (peek 1) nilB)) (kon (.int 30))) (kon (.int 29)))) (retS (bin subS (kon (.int 999999999999999)) (peek 2))) skip)
    (retS (bin addS (bin mulA (callB intS (conB (peek 0) nilB)) (kon (.int 1000))) (callB intS (conB (peek 1) nilB))))))))
def law_number_f : List D → R SV := runB 2 3 law_number_b
def law_block_w1 : En → R Fl :=
    (kill [7, 8, 9, 10] (seqS (asgS 8 (callF 2 law_draws_f (conA (getV 7) (conA (kon (.int 9)) nilA))))
    (seqS (asgS 9 (callF 3 law_labels_f (conA (slice (peek 8) noO (someO (bin mulA (kon (.int 2)) (bin modS (bin ixS (peek 8) (kon (.int 4))) (kon (.int 4)))))) (conA (getV 1) (conA (getV 2) nilA)))))
    (seqS (asgS 10 (bin addS (peek 4) (bin modS (bin addS (bin mulA (bin ixS (peek 8) (kon (.int 5))) (kon (.int 1000))) (bin ixS (peek 8) (kon (.int 6)))) (callB min2S (conB (peek 5) (conB (bin subS (kon (.int 10001)) (peek 4)) nilB))))))
    (frzS [9, 10] (kputS 6 (dispT (conA (getV 9) (conA (getV 10) nilA))) (callF 2 law_number_f (conA (bin ixS (peek 8) (kon (.int 7))) (conA (bin ixS (peek 8) (kon (.int 8))) nilA)))))))))
def law_block_b : En → R Fl :=
    (seqS (asgS 3 (callF 2 law_draws_f (conA (callF 2 law_cell_f (conA (getV 0) (conA (kon (.int 2)) nilA))) (conA (kon (.int 6)) nilA))))
    (seqS (asgS 4 (bin modS (bin ixS (peek 3) (kon (.int 0))) (kon (.int 300))))
    (seqS (asgS 5 (bin addS (kon (.int 1)) (bin modS (bin ixS (peek 3) (kon (.int 1))) (kon (.int 300)))))
    (seqS (ifS (asT (bin (eqS false) (bin modS (bin ixS (peek 3) (kon (.int 2))) (kon (.int 4))) (kon (.int 0)))) (asgS 5 (bin addS (bin addS (kon (.int 1)) (bin mulA (bin ixS (peek 3) (kon (.int 1))) (kon (.int 1000000)))) (bin ixS (peek 3) (kon (.int 3))))) skip)
    (seqS (asgS 6 knewS)
    (seqS (forS (seqD (slice (peek 0) (someO (kon (.int 3))) noO)) (setD 7) law_block_w1)
    (frzS [5] (retS (dispT (conA (getV 4) (conA (getV 5) (conA (lcE (seqD (callB sortKS (conB (peek 6) nilB))) (setD 11) yesT (dispT (conA (bin ixS (peek 11) (kon (.int 0))) (conA (bin ixS (peek 11) (kon (.int 1))) (conA (kget (peek 6) (getV 11)) nilA)))) [11]) nilA))))))))))))
def law_block_f : List D → R SV := runB 3 12 law_block_b
def law_series_n1 : En → Rw → R (En × Rw) :=
    (killN 1 [2, 3, 4] (ifN (andN anyN (asN (binN (eqS false) (lastG (binN subS lenN (fun ρ _ => (kon (.int 1)) ρ)) 0) (fun ρ _ => (peek 2) ρ)))) (pushG (binN subS lenN (fun ρ _ => (kon (.int 1)) ρ)) 1 (dispT (conA (getV 3) (conA (getV 4) nilA)))) (newN (getV 2) (conA (dispT (conA (getV 3) (conA (getV 4) nilA))) nilA))))
def law_series_b : En → R Fl :=
    (seqS (asgS 1 (dispL nilA))
    (seqS (rowsS 1 (seqD (getV 0)) (tupG 3 (gsC (setD 2) (gsC (setD 3) (gsC (setD 4) gsN)))) law_series_n1)
    (retV 1)))
def law_series_f : List D → R SV := runB 1 5 law_series_b
def law_groups_w1 : En → R Fl :=
    (kill [2] (seqS (ifS (asT (bin ltS (peek 0) (kon (.int 128)))) (retS (bin addS (peek 1) (dispL (conA (getV 0) nilA)))) skip)
    (seqS (appS 1 (bin addS (bin modS (callB intS (conB (peek 0) nilB)) (kon (.int 128))) (kon (.int 128))))
    (asgS 0 (bin fdivS (peek 0) (kon (.int 128)))))))
def law_groups_b : En → R Fl :=
    (seqS (asgS 1 (dispL nilA))
    (seqS (forS (rngD1 (conB (kon (.int 40)) nilB)) (setD 2) law_groups_w1)
    (retV 1)))
def law_groups_f : List D → R SV := runB 1 3 law_groups_b
def law_letters_b : En → R Fl :=
    (retS (bin addS (callF 1 law_groups_f (conA (callB lenS (conB (peek 0) nilB)) nilA)) (lcE (seqD (getV 0)) (setD 1) yesT (callB ordS (conB (peek 1) nilB)) [1])))
def law_letters_f : List D → R SV := runB 1 2 law_letters_b
def law_labels_bytes_w1 : En → R Fl :=
    (kill [2, 3] (asgS 1 (bin addS (bin addS (peek 1) (callF 1 law_letters_f (conA (getV 2) nilA))) (callF 1 law_letters_f (conA (getV 3) nilA)))))
def law_labels_bytes_b : En → R Fl :=
    (seqS (asgS 1 (callF 1 law_groups_f (conA (callB lenS (conB (peek 0) nilB)) nilA)))
    (seqS (forS (seqD (getV 0)) (tupG 2 (gsC (setD 2) (gsC (setD 3) gsN))) law_labels_bytes_w1)
    (retV 1)))
def law_labels_bytes_f : List D → R SV := runB 1 4 law_labels_bytes_b
def law_integer_bytes_b : En → R Fl :=
    (retS (callF 1 law_groups_f (conA (iff' (asT (bin geS (peek 0) (kon (.int 0)))) (bin mulA (kon (.int 2)) (peek 0)) (bin subS (bin mulA (una negS (kon (.int 2))) (peek 0)) (kon (.int 1)))) nilA)))
def law_integer_bytes_f : List D → R SV := runB 1 1 law_integer_bytes_b
def law_block_bytes_w1 : En → R Fl :=
    (kill [9, 10] (seqS (asgS 4 (bin addS (bin addS (peek 4) (callF 1 law_groups_f (conA (bin subS (peek 9) (peek 7)) nilA))) (callF 1 law_integer_bytes_f (conA (bin subS (peek 10) (peek 8)) nilA))))
    (seqS (asgS 7 (bin addS (peek 9) (kon (.int 1))))
    (asgS 8 (getV 10)))))
def law_block_bytes_w2 : En → R Fl :=
    (kill [5, 6, 7, 8, 9, 10] (seqS (asgS 4 (bin addS (bin addS (peek 4) (callF 1 law_labels_bytes_f (conA (getV 5) nilA))) (callF 1 law_groups_f (conA (callB lenS (conB (peek 6) nilB)) nilA))))
    (seqS (asgS 7 (getV 0))
    (seqS (asgS 8 (kon (.int 0)))
    (forS (seqD (getV 6)) (tupG 2 (gsC (setD 9) (gsC (setD 10) gsN))) law_block_bytes_w1)))))
def law_block_bytes_b : En → R Fl :=
    (seqS (asgS 3 (callF 1 law_series_f (conA (getV 2) nilA)))
    (seqS (asgS 4 (bin addS (bin addS (callF 1 law_groups_f (conA (getV 0) nilA)) (callF 1 law_groups_f (conA (getV 1) nilA))) (callF 1 law_groups_f (conA (callB lenS (conB (peek 3) nilB)) nilA))))
    (seqS (frzS [3] (forS (seqD (getV 3)) (tupG 2 (gsC (setD 5) (gsC (setD 6) gsN))) law_block_bytes_w2))
    (retV 4))))
def law_block_bytes_f : List D → R SV := runB 3 11 law_block_bytes_b
def law_b : En → R Fl :=
    (seqS (asgS 1 (callF 2 law_names_f (conA (callF 2 law_cell_f (conA (getV 0) (conA (kon (.int 0)) nilA))) (conA (kon (.int 3)) nilA))))
    (seqS (asgS 2 (callF 2 law_worths_f (conA (callF 2 law_cell_f (conA (getV 0) (conA (kon (.int 1)) nilA))) (conA (kon (.int 3)) nilA))))
    (seqS (frzS [1, 2] (asgG (tupG 3 (gsC (setD 3) (gsC (setD 4) (gsC (setD 5) gsN)))) (callF 3 law_block_f (conA (getV 0) (conA (getV 1) (conA (getV 2) nilA))))))
    (seqS (asgS 6 (iff' (asT (bin leS (bin addS (peek 3) (peek 4)) (kon (.int 10000)))) (dispL (conA (dispT (conA (dispT nilA) (conA (bin addS (peek 3) (peek 4)) (conA (kon (.int 5)) nilA)))) nilA)) (dispL nilA)))
    (seqS (asgS 6 (bin addS (peek 6) (iff' (asT (bin gtS (peek 3) (kon (.int 0)))) (dispL (conA (dispT (conA (dispT (conA (dispT (conA (kon (.str "zz")) (conA (kon (.str "1")) nilA))) nilA)) (conA (bin subS (peek 3) (kon (.int 1))) (conA (kon (.int 6)) nilA)))) nilA)) (dispL nilA))))
    (seqS (asgS 7 (callB sortedS (conB (bin addS (peek 5) (peek 6)) nilB)))
    (seqS (asgS 8 (callF 3 block_of_f (conA (getV 3) (conA (getV 4) (conA (callB listS (conB (peek 7) nilB)) nilA)))))
    (seqS (ifS (notT (tru (peek 5))) (retS (bin (isnS false) (peek 8) (kon .none))) skip)
    (seqS (frzS [8] (ifS (orT (asT (bin (eqS true) (peek 8) (dispT (conA (getV 3) (conA (getV 4) (conA (callF 1 law_series_f (conA (getV 5) nilA)) nilA)))))) (asT (bin (eqS true) (callF 1 samples_of_f (conA (getV 8) nilA)) (peek 5)))) (retS (kon (.bool false))) skip))
    (seqS (frzS [8] (asgS 9 (callF 1 put_block_f (conA (getV 8) nilA))))
    (retS (andV (isi "list" (peek 9)) (andV (bin (eqS false) (peek 9) (callF 3 law_block_bytes_f (conA (getV 3) (conA (getV 4) (conA (getV 5) nilA))))) (bin (eqS false) (callF 1 take_block_f (conA (callB listS (conB (peek 9) nilB)) nilA)) (peek 8)))))))))))))))
def law_f : List D → R SV := runB 1 10 law_b
/-! ### the promises -/
section
variable {P : Program} {w : World} {K : PySem.W.Frag} {mg : Str → Option Value} {base : Heap} {cm : Nat → Addr × List Str}
structure Bl (K : PySem.W.Frag) (mg : Str → Option Value) (cm : Nat → Addr × List Str) (A_NotABlock : Addr) : Prop where
  abs_ : mg "abs" = none
  enumerate_ : mg "enumerate" = none
  int_ : mg "int" = none
  isinstance_ : mg "isinstance" = none
  len_ : mg "len" = none
  list_ : mg "list" = none
  min_ : mg "min" = none
  ord_ : mg "ord" = none
  range_ : mg "range" = none
  sorted_ : mg "sorted" = none
  tuple_ : mg "tuple" = none
  m0 : cm 0 = (A_NotABlock, [])
  z0 : Xc K mg "NotABlock" A_NotABlock
  g_NotABlock : mg "NotABlock" = some (.ref A_NotABlock)
variable {A_NotABlock : Addr}
theorem ok_is_value (Bz : Bl K mg cm A_NotABlock) {t_MOST_CHARS : Tok} {t_WORD_CHARS : Tok} (C_MOST_CHARS : True ∧ mg "MOST_CHARS" = some (.int 20 t_MOST_CHARS)) (C_WORD_CHARS : True ∧ mg "WORD_CHARS" = some (.str "abcdefghijklmnopqrstuvwxyz0123456789_" t_WORD_CHARS))  {f_is_value : Addr} {fd_is_value : FuncData} (T_is_value : Fn K mg "is_value" s_is_value ["text"] f_is_value fd_is_value) : FnOk P w K mg base CX0 1 f_is_value fd_is_value ["text"] (spF w K cm 1 is_value_f) := by
  refine mk_ok (k := 0) T_is_value.F sc_is_value fun cdv A outer s H E hr => ⟨_,
    (pss_cons (ps_if (PW.pt (pw_or (pt_cmpR (o_eq hr.units) (pv 0) pe_str (nomark _)) (pw_or1 (pt_cmpR o_gt (pe_callB cb_len (by rfl) Bz.len_ (by decide +kernel) (pa_cons (pv 0) pa_nil)) (pe_glob (v := .int 20) (by rfl) C_MOST_CHARS.2 ⟨_, rfl⟩) (nomark _))))) (pss_one (ps_ret pe_bl)) pss_nil)
    (pss_cons (ps_for PassesOwn.never rfl (pi_seq (pv 0)) (pg_name (i := 1) sc_is_value.nd rfl (.inl rfl)) (pss_one (ps_if (pt_cmpR (o_notin (u65 hr)) (pv 1) (pe_glob (v := .str "abcdefghijklmnopqrstuvwxyz0123456789_") (by rfl) C_WORD_CHARS.2 ⟨_, rfl⟩) (by rfl)) (pss_one (ps_ret pe_bl)) pss_nil)))
    (pss_one (ps_ret pe_bl)))), ?_⟩
  exact fun ex => (sem_seq (sem_if (sem_or (sem_tTest (sem_bin r2_eq sem_peek sem_str)) (sem_tTest (sem_bin r2_gt (SemE.look (sem_callB c1_len (sem_conB sem_peek sem_nilB))) sem_int))) (sem_ret sem_bl) sem_skip)
    (sem_seq (sem_for (sem_seqI sem_var) (sem_gName (i := 1)) (sem_kill (is := [1]) (sem_if (sem_tTest (sem_bin r2_notin sem_peek sem_str)) (sem_ret sem_bl) sem_skip)))
    (sem_ret sem_bl)))
theorem ok_is_name (Bz : Bl K mg cm A_NotABlock) {t_LETTERS : Tok} {t_MOST_CHARS : Tok} {t_WORD_CHARS : Tok} (C_LETTERS : True ∧ mg "LETTERS" = some (.str "abcdefghijklmnopqrstuvwxyz" t_LETTERS)) (C_MOST_CHARS : True ∧ mg "MOST_CHARS" = some (.int 20 t_MOST_CHARS)) (C_WORD_CHARS : True ∧ mg "WORD_CHARS" = some (.str "abcdefghijklmnopqrstuvwxyz0123456789_" t_WORD_CHARS)) {f_is_value : Addr} {fd_is_value : FuncData} (T_is_value : Fn K mg "is_value" s_is_value ["text"] f_is_value fd_is_value) {f_is_name : Addr} {fd_is_name : FuncData} (T_is_name : Fn K mg "is_name" s_is_name ["text"] f_is_name fd_is_name) : FnOk P w K mg base CX0 2 f_is_name fd_is_name ["text"] (spF w K cm 1 is_name_f) := by
  have G_is_value : FnOk P w K mg base CX0 1 f_is_value fd_is_value ["text"] (spF w K cm 1 is_value_f) := ok_is_value Bz C_MOST_CHARS C_WORD_CHARS  T_is_value
  refine mk_ok (k := 1) T_is_name.F sc_is_name fun cdv A outer s H E hr => ⟨_,
    (pss_one (ps_ret (pe_and (pe_call (G_is_value) (hr.mono (by omega)) (by rfl) T_is_value.m T_is_value.F.kp T_is_value.b .nil (passE (E := E)) (pa_cons (pv 0) pa_nil)) (pe_one (pe_cmpR (o_in (u65 hr)) (pe_ix ix_seq (pv 0) pe_int (fun _ _ => rfl)) (pe_glob (v := .str "abcdefghijklmnopqrstuvwxyz") (by rfl) C_LETTERS.2 ⟨_, rfl⟩) (by rfl)))))), ?_⟩
  exact fun ex => (sem_ret (sem_andV (SemE.look (sem_call (sem_conA sem_var sem_nilA))) (sem_bin r2_in (SemE.look (sem_bin r2_ix sem_peek sem_int)) sem_str)))
theorem ok_put_number (Bz : Bl K mg cm A_NotABlock)  {f_put_number : Addr} {fd_put_number : FuncData} (T_put_number : Fn K mg "put_number" s_put_number ["n"] f_put_number fd_put_number) : FnOk P w K mg base CX0 1 f_put_number fd_put_number ["n"] (spF w K cm 1 put_number_f) := by
  refine mk_ok (k := 0) T_put_number.F sc_put_number fun cdv A outer s H E hr => ⟨_,
    (pss_cons (ps_set (i := 1) sc_put_number.nd rfl (.inl rfl) (pe_lst pa_nil))
    (pss_cons (ps_while PassesOwn.never (pt_cmpR o_ge (pv 0) pe_int (nomark _)) (pss_cons (ps_expr (pe_bm PySem.F.plainAttrs_list PySem.F.slot_list_append PySem.F.type_list_append mt_append (pv 1) (pa_cons (pe_op o_add (pe_op op_mod (pe_callTy cb_int (by rfl) Bz.int_ (by decide +kernel) (pa_cons (pv 0) pa_nil)) pe_int) pe_int) pa_nil)))
    (pss_one (ps_set (i := 0) sc_put_number.nd rfl (.inl rfl) (pe_op op_fdiv (pv 0) pe_int)))))
    (pss_cons (ps_expr (pe_bm PySem.F.plainAttrs_list PySem.F.slot_list_append PySem.F.type_list_append mt_append (pv 1) (pa_cons (pv 0) pa_nil)))
    (pss_one (ps_ret (pv 1)))))), ?_⟩
  exact fun ex => (sem_seq (sem_set (sem_lst sem_nilA))
    (sem_seq (sem_while (μ := fuel) (sem_tTest (sem_bin r2_ge sem_peek sem_int)) (sem_seq (sem_app (i := 1) (sem_bin r2_add (SemE.look (sem_bin r2_mod (SemE.look (sem_callB c1_int (sem_conB sem_peek sem_nilB))) sem_int)) sem_int))
    (sem_set (sem_bin r2_fdiv sem_peek sem_int))))
    (sem_seq (sem_app (i := 1) sem_var)
    (sem_retV (i := 1)))))
theorem ok_put_integer (Bz : Bl K mg cm A_NotABlock) {f_put_number : Addr} {fd_put_number : FuncData} (T_put_number : Fn K mg "put_number" s_put_number ["n"] f_put_number fd_put_number) {f_put_integer : Addr} {fd_put_integer : FuncData} (T_put_integer : Fn K mg "put_integer" s_put_integer ["n"] f_put_integer fd_put_integer) : FnOk P w K mg base CX0 2 f_put_integer fd_put_integer ["n"] (spF w K cm 1 put_integer_f) := by
  have G_put_number : FnOk P w K mg base CX0 1 f_put_number fd_put_number ["n"] (spF w K cm 1 put_number_f) := ok_put_number Bz  T_put_number
  refine mk_ok (k := 1) T_put_integer.F sc_put_integer fun cdv A outer s H E hr => ⟨_,
    (pss_cons (ps_if (pt_cmpR o_ge (pv 0) pe_int (nomark _)) (pss_one (ps_ret (pe_call (G_put_number) (hr.mono (by omega)) (by rfl) T_put_number.m T_put_number.F.kp T_put_number.b .nil (passE (E := E)) (pa_cons (pe_op o_mul pe_int (pv 0)) pa_nil)))) pss_nil)
    (pss_one (ps_ret (pe_call (G_put_number) (hr.mono (by omega)) (by rfl) T_put_number.m T_put_number.F.kp T_put_number.b .nil (passE (E := E)) (pa_cons (pe_op op_sub (pe_op o_mul (pe_un un_neg pe_int) (pv 0)) pe_int) pa_nil))))), ?_⟩
  exact fun ex => (sem_seq (sem_if (sem_tTest (sem_bin r2_ge sem_peek sem_int)) (sem_ret (sem_call (sem_conA (sem_bin r2_mulA sem_int sem_peek) sem_nilA))) sem_skip)
    (sem_ret (sem_call (sem_conA (sem_bin r2_sub (SemE.look (sem_bin r2_mulA (SemE.look (sem_neg sem_int)) sem_peek)) sem_int) sem_nilA))))
theorem ok_put_text (Bz : Bl K mg cm A_NotABlock) {f_put_number : Addr} {fd_put_number : FuncData} (T_put_number : Fn K mg "put_number" s_put_number ["n"] f_put_number fd_put_number) {f_put_text : Addr} {fd_put_text : FuncData} (T_put_text : Fn K mg "put_text" s_put_text ["text"] f_put_text fd_put_text) : FnOk P w K mg base CX0 2 f_put_text fd_put_text ["text"] (spF w K cm 1 put_text_f) := by
  have G_put_number : FnOk P w K mg base CX0 1 f_put_number fd_put_number ["n"] (spF w K cm 1 put_number_f) := ok_put_number Bz  T_put_number
  refine mk_ok (k := 1) T_put_text.F sc_put_text fun cdv A outer s H E hr => ⟨_,
    (pss_cons (ps_set (i := 1) sc_put_text.nd rfl (.inl rfl) (pe_call (G_put_number) (hr.mono (by omega)) (by rfl) T_put_number.m T_put_number.F.kp T_put_number.b .nil (passE (E := E)) (pa_cons (pe_callB cb_len (by rfl) Bz.len_ (by decide +kernel) (pa_cons (pv 0) pa_nil)) pa_nil)))
    (pss_cons (ps_for PassesOwn.never rfl (pi_seq (pv 0)) (pg_name (i := 2) sc_put_text.nd rfl (.inl rfl)) (pss_one (ps_set (i := 1) sc_put_text.nd rfl (.inl rfl) (pe_op o_add (pv 1) (pe_call (G_put_number) (hr.mono (by omega)) (by rfl) T_put_number.m T_put_number.F.kp T_put_number.b .nil (passE (E := E)) (pa_cons (pe_callB cb_ord (by rfl) Bz.ord_ (by decide +kernel) (pa_cons (pv 2) pa_nil)) pa_nil))))))
    (pss_one (ps_ret (pv 1))))), ?_⟩
  exact fun ex => (sem_seq (sem_set (sem_call (sem_conA (sem_callB c1_len (sem_conB sem_peek sem_nilB)) sem_nilA)))
    (sem_seq (sem_for (sem_seqI sem_var) (sem_gName (i := 2)) (sem_kill (is := [2]) (sem_set (sem_bin r2_add sem_peek (SemE.look (sem_call (sem_conA (sem_callB c1_ord (sem_conB sem_peek sem_nilB)) sem_nilA)))))))
    (sem_retV (i := 1))))
theorem ok_put_labels (Bz : Bl K mg cm A_NotABlock) {f_put_number : Addr} {fd_put_number : FuncData} (T_put_number : Fn K mg "put_number" s_put_number ["n"] f_put_number fd_put_number) {f_put_text : Addr} {fd_put_text : FuncData} (T_put_text : Fn K mg "put_text" s_put_text ["text"] f_put_text fd_put_text) {f_put_labels : Addr} {fd_put_labels : FuncData} (T_put_labels : Fn K mg "put_labels" s_put_labels ["labels"] f_put_labels fd_put_labels) : FnOk P w K mg base CX0 3 f_put_labels fd_put_labels ["labels"] (spF w K cm 1 put_labels_f) := by
  have G_put_number : FnOk P w K mg base CX0 1 f_put_number fd_put_number ["n"] (spF w K cm 1 put_number_f) := ok_put_number Bz  T_put_number
  have G_put_text : FnOk P w K mg base CX0 2 f_put_text fd_put_text ["text"] (spF w K cm 1 put_text_f) := ok_put_text Bz T_put_number T_put_text
  refine mk_ok (k := 2) T_put_labels.F sc_put_labels fun cdv A outer s H E hr => ⟨_,
    (pss_cons (ps_set (i := 1) sc_put_labels.nd rfl (.inl rfl) (pe_call (G_put_number) (hr.mono (by omega)) (by rfl) T_put_number.m T_put_number.F.kp T_put_number.b .nil (passE (E := E)) (pa_cons (pe_callB cb_len (by rfl) Bz.len_ (by decide +kernel) (pa_cons (pv 0) pa_nil)) pa_nil)))
    (pss_cons (ps_for PassesOwn.never rfl (pi_seq (pv 0)) (pg_sq (by rfl) (pgs_cons (pg_name (i := 2) sc_put_labels.nd rfl (.inl rfl)) (pgs_cons (pg_name (i := 3) sc_put_labels.nd rfl (.inl rfl)) pgs_nil))) (pss_one (ps_set (i := 1) sc_put_labels.nd rfl (.inl rfl) (pe_op o_add (pe_op o_add (pv 1) (pe_call (G_put_text) (hr.mono (by omega)) (by rfl) T_put_text.m T_put_text.F.kp T_put_text.b .nil (passE (E := E)) (pa_cons (pv 2) pa_nil))) (pe_call (G_put_text) (hr.mono (by omega)) (by rfl) T_put_text.m T_put_text.F.kp T_put_text.b .nil (passE (E := E)) (pa_cons (pv 3) pa_nil))))))
    (pss_one (ps_ret (pv 1))))), ?_⟩
  exact fun ex => (sem_seq (sem_set (sem_call (sem_conA (sem_callB c1_len (sem_conB sem_peek sem_nilB)) sem_nilA)))
    (sem_seq (sem_for (sem_seqI sem_var) (sem_gTup (n := 2) (sem_gsC (sem_gName (i := 2)) (sem_gsC (sem_gName (i := 3)) sem_gsN))) (sem_kill (is := [2, 3]) (sem_set (sem_bin r2_add (SemE.look (sem_bin r2_add sem_peek (SemE.look (sem_call (sem_conA sem_var sem_nilA))))) (SemE.look (sem_call (sem_conA sem_var sem_nilA)))))))
    (sem_retV (i := 1))))
theorem ok_take_number (Bz : Bl K mg cm A_NotABlock)  {f_take_number : Addr} {fd_take_number : FuncData} (T_take_number : Fn K mg "take_number" s_take_number ["data", "at"] f_take_number fd_take_number) : FnOk P w K mg base CX0 1 f_take_number fd_take_number ["data", "at"] (spF w K cm 2 take_number_f) := by
  refine mk_ok (k := 0) T_take_number.F sc_take_number fun cdv A outer s H E hr => ⟨_,
    (pss_cons (ps_set (i := 2) sc_take_number.nd rfl (.inl rfl) pe_int)
    (pss_cons (ps_set (i := 3) sc_take_number.nd rfl (.inl rfl) pe_int)
    (pss_cons (ps_while PassesOwn.never (PW.pt (pw_and (pt_cmpR o_lt (pv 1) (pe_callB cb_len (by rfl) Bz.len_ (by decide +kernel) (pa_cons (pv 0) pa_nil)) (nomark _)) (pw_and1 (pt_cmpR o_ge (pe_ix ix_seq (pv 0) (pv 1) (fun _ _ => rfl)) pe_int (nomark _))))) (pss_cons (ps_set (i := 2) sc_take_number.nd rfl (.inl rfl) (pe_op o_add (pv 2) (pe_op o_mul (pv 3) (pe_op op_sub (pe_ix ix_seq (pv 0) (pv 1) (fun _ _ => rfl)) pe_int))))
    (pss_cons (ps_set (i := 3) sc_take_number.nd rfl (.inl rfl) (pe_op o_mul (pv 3) pe_int))
    (pss_one (ps_set (i := 1) sc_take_number.nd rfl (.inl rfl) (pe_op o_add (pv 1) pe_int))))))
    (pss_cons (ps_if (PW.pt (pw_or (pt_cmpR o_ge (pv 1) (pe_callB cb_len (by rfl) Bz.len_ (by decide +kernel) (pa_cons (pv 0) pa_nil)) (nomark _)) (pw_or1 (PW.pt (pw_and (pt_cmpR (o_eq hr.units) (pe_ix ix_seq (pv 0) (pv 1) (fun _ _ => rfl)) pe_int (nomark _)) (pw_and1 (pt_cmpR o_gt (pv 3) pe_int (nomark _)))))))) (pss_one (ps_ret pe_non)) pss_nil)
    (pss_one (ps_ret (pe_tup (pa_cons (pe_op o_add (pv 2) (pe_op o_mul (pv 3) (pe_ix ix_seq (pv 0) (pv 1) (fun _ _ => rfl)))) (pa_cons (pe_op o_add (pv 1) pe_int) pa_nil))))))))), ?_⟩
  exact fun ex => (sem_seq (sem_set sem_int)
    (sem_seq (sem_set sem_int)
    (sem_seq (sem_while (μ := fuel) (sem_and (sem_tTest (sem_bin r2_lt sem_peek (SemE.look (sem_callB c1_len (sem_conB sem_peek sem_nilB))))) (sem_tTest (sem_bin r2_ge (SemE.look (sem_bin r2_ix sem_peek sem_peek)) sem_int))) (sem_seq (sem_set (sem_bin r2_add sem_peek (SemE.look (sem_bin r2_mulA sem_peek (SemE.look (sem_bin r2_sub (SemE.look (sem_bin r2_ix sem_peek sem_peek)) sem_int))))))
    (sem_seq (sem_set (sem_bin r2_mulA sem_peek sem_int))
    (sem_set (sem_bin r2_add sem_peek sem_int)))))
    (sem_seq (sem_if (sem_or (sem_tTest (sem_bin r2_ge sem_peek (SemE.look (sem_callB c1_len (sem_conB sem_peek sem_nilB))))) (sem_and (sem_tTest (sem_bin r2_eq (SemE.look (sem_bin r2_ix sem_peek sem_peek)) sem_int)) (sem_tTest (sem_bin r2_gt sem_peek sem_int)))) (sem_ret sem_non) sem_skip)
    (sem_ret (sem_tup (sem_conA (sem_bin r2_add sem_peek (SemE.look (sem_bin r2_mulA sem_peek (SemE.look (sem_bin r2_ix sem_peek sem_peek))))) (sem_conA (sem_bin r2_add sem_peek sem_int) sem_nilA))))))))
theorem ok_take_integer (Bz : Bl K mg cm A_NotABlock) {f_take_number : Addr} {fd_take_number : FuncData} (T_take_number : Fn K mg "take_number" s_take_number ["data", "at"] f_take_number fd_take_number) {f_take_integer : Addr} {fd_take_integer : FuncData} (T_take_integer : Fn K mg "take_integer" s_take_integer ["data", "at"] f_take_integer fd_take_integer) : FnOk P w K mg base CX0 2 f_take_integer fd_take_integer ["data", "at"] (spF w K cm 2 take_integer_f) := by
  have G_take_number : FnOk P w K mg base CX0 1 f_take_number fd_take_number ["data", "at"] (spF w K cm 2 take_number_f) := ok_take_number Bz  T_take_number
  refine mk_ok (k := 1) T_take_integer.F sc_take_integer fun cdv A outer s H E hr => ⟨_,
    (pss_cons (ps_set (i := 2) sc_take_integer.nd rfl (.inl rfl) (pe_call (G_take_number) (hr.mono (by omega)) (by rfl) T_take_number.m T_take_number.F.kp T_take_number.b .nil (passE (E := E)) (pa_cons (pv 0) (pa_cons (pv 1) pa_nil))))
    (pss_cons (ps_if (pt_cmpR op_isN (pv 2) pe_non (nomark _)) (pss_one (ps_ret pe_non)) pss_nil)
    (pss_cons (ps_asg (pv 2) (pg_sq (by rfl) (pgs_cons (pg_name (i := 3) sc_take_integer.nd rfl (.inl rfl)) (pgs_cons (pg_name (i := 4) sc_take_integer.nd rfl (.inl rfl)) pgs_nil))))
    (pss_cons (ps_if (pt_cmpR (o_eq hr.units) (pe_op op_mod (pe_callTy cb_int (by rfl) Bz.int_ (by decide +kernel) (pa_cons (pv 3) pa_nil)) pe_int) pe_int (nomark _)) (pss_one (ps_ret (pe_tup (pa_cons (pe_op op_fdiv (pv 3) pe_int) (pa_cons (pv 4) pa_nil))))) pss_nil)
    (pss_one (ps_ret (pe_tup (pa_cons (pe_un un_neg (pe_op op_fdiv (pe_op o_add (pv 3) pe_int) pe_int)) (pa_cons (pv 4) pa_nil))))))))), ?_⟩
  exact fun ex => (sem_seq (sem_set (sem_call (sem_conA sem_var (sem_conA sem_var sem_nilA))))
    (sem_seq (sem_if (sem_tTest (sem_bin r2_isn sem_peek sem_non)) (sem_ret sem_non) sem_skip)
    (sem_seq (sem_frz (is := [2]) (sem_asgG sem_var (sem_gTup (n := 2) (sem_gsC (sem_gName (i := 3)) (sem_gsC (sem_gName (i := 4)) sem_gsN)))))
    (sem_seq (sem_if (sem_tTest (sem_bin r2_eq (SemE.look (sem_bin r2_mod (SemE.look (sem_callB c1_int (sem_conB sem_peek sem_nilB))) sem_int)) sem_int)) (sem_ret (sem_tup (sem_conA (sem_bin r2_fdiv sem_peek sem_int) (sem_conA sem_var sem_nilA)))) sem_skip)
    (sem_ret (sem_tup (sem_conA (sem_neg (SemE.look (sem_bin r2_fdiv (SemE.look (sem_bin r2_add sem_peek sem_int)) sem_int))) (sem_conA sem_var sem_nilA))))))))
theorem ok_char_at (Bz : Bl K mg cm A_NotABlock) {t_WORD_CHARS : Tok} (C_WORD_CHARS : True ∧ mg "WORD_CHARS" = some (.str "abcdefghijklmnopqrstuvwxyz0123456789_" t_WORD_CHARS))  {f_char_at : Addr} {fd_char_at : FuncData} (T_char_at : Fn K mg "char_at" s_char_at ["place"] f_char_at fd_char_at) : FnOk P w K mg base CX0 1 f_char_at fd_char_at ["place"] (spF w K cm 1 char_at_f) := by
  refine mk_ok (k := 0) T_char_at.F sc_char_at fun cdv A outer s H E hr => ⟨_,
    (pss_cons (ps_for PassesOwn.never rfl (pi_seq (pe_glob (v := .str "abcdefghijklmnopqrstuvwxyz0123456789_") (by rfl) C_WORD_CHARS.2 ⟨_, rfl⟩)) (pg_name (i := 1) sc_char_at.nd rfl (.inl rfl)) (pss_one (ps_if (pt_cmpR (o_eq hr.units) (pe_callB cb_ord (by rfl) Bz.ord_ (by decide +kernel) (pa_cons (pv 1) pa_nil)) (pv 0) (nomark _)) (pss_one (ps_ret (pv 1))) pss_nil)))
    (pss_one (ps_ret pe_non))), ?_⟩
  exact fun ex => (sem_seq (sem_for (sem_seqI sem_str) (sem_gName (i := 1)) (sem_kill (is := [1]) (sem_if (sem_tTest (sem_bin r2_eq (SemE.look (sem_callB c1_ord (sem_conB sem_peek sem_nilB))) sem_peek)) (sem_retV (i := 1)) sem_skip)))
    (sem_ret sem_non))
theorem ok_take_text (Bz : Bl K mg cm A_NotABlock) {t_WORD_CHARS : Tok} (C_WORD_CHARS : True ∧ mg "WORD_CHARS" = some (.str "abcdefghijklmnopqrstuvwxyz0123456789_" t_WORD_CHARS)) {f_take_number : Addr} {fd_take_number : FuncData} (T_take_number : Fn K mg "take_number" s_take_number ["data", "at"] f_take_number fd_take_number) {f_char_at : Addr} {fd_char_at : FuncData} (T_char_at : Fn K mg "char_at" s_char_at ["place"] f_char_at fd_char_at) {f_take_text : Addr} {fd_take_text : FuncData} (T_take_text : Fn K mg "take_text" s_take_text ["data", "at"] f_take_text fd_take_text) : FnOk P w K mg base CX0 2 f_take_text fd_take_text ["data", "at"] (spF w K cm 2 take_text_f) := by
  have G_take_number : FnOk P w K mg base CX0 1 f_take_number fd_take_number ["data", "at"] (spF w K cm 2 take_number_f) := ok_take_number Bz  T_take_number
  have G_char_at : FnOk P w K mg base CX0 1 f_char_at fd_char_at ["place"] (spF w K cm 1 char_at_f) := ok_char_at Bz C_WORD_CHARS  T_char_at
  refine mk_ok (k := 1) T_take_text.F sc_take_text fun cdv A outer s H E hr => ⟨_,
    (pss_cons (ps_set (i := 2) sc_take_text.nd rfl (.inl rfl) (pe_call (G_take_number) (hr.mono (by omega)) (by rfl) T_take_number.m T_take_number.F.kp T_take_number.b .nil (passE (E := E)) (pa_cons (pv 0) (pa_cons (pv 1) pa_nil))))
    (pss_cons (ps_if (pt_cmpR op_isN (pv 2) pe_non (nomark _)) (pss_one (ps_ret pe_non)) pss_nil)
    (pss_cons (ps_asg (pv 2) (pg_sq (by rfl) (pgs_cons (pg_name (i := 3) sc_take_text.nd rfl (.inl rfl)) (pgs_cons (pg_name (i := 1) sc_take_text.nd rfl (.inl rfl)) pgs_nil))))
    (pss_cons (ps_set (i := 4) sc_take_text.nd rfl (.inl rfl) pe_str)
    (pss_cons (ps_while PassesOwn.never (pt_cmpR o_lt (pe_callB cb_len (by rfl) Bz.len_ (by decide +kernel) (pa_cons (pv 4) pa_nil)) (pv 3) (nomark _)) (pss_cons (ps_set (i := 2) sc_take_text.nd rfl (.inl rfl) (pe_call (G_take_number) (hr.mono (by omega)) (by rfl) T_take_number.m T_take_number.F.kp T_take_number.b .nil (passE (E := E)) (pa_cons (pv 0) (pa_cons (pv 1) pa_nil))))
    (pss_cons (ps_if (pt_cmpR op_isN (pv 2) pe_non (nomark _)) (pss_one (ps_ret pe_non)) pss_nil)
    (pss_cons (ps_set (i := 5) sc_take_text.nd rfl (.inl rfl) (pe_call (G_char_at) (hr.mono (by omega)) (by rfl) T_char_at.m T_char_at.F.kp T_char_at.b .nil (passE (E := E)) (pa_cons (pe_ix ix_seq (pv 2) pe_int (fun _ _ => rfl)) pa_nil)))
    (pss_cons (ps_if (pt_cmpR op_isN (pv 5) pe_non (nomark _)) (pss_one (ps_ret pe_non)) pss_nil)
    (pss_cons (ps_set (i := 4) sc_take_text.nd rfl (.inl rfl) (pe_op o_add (pv 4) (pv 5)))
    (pss_one (ps_set (i := 1) sc_take_text.nd rfl (.inl rfl) (pe_ix ix_seq (pv 2) pe_int (fun _ _ => rfl))))))))))
    (pss_one (ps_ret (pe_tup (pa_cons (pv 4) (pa_cons (pv 1) pa_nil)))))))))), ?_⟩
  exact fun ex => (sem_seq (sem_set (sem_call (sem_conA sem_var (sem_conA sem_var sem_nilA))))
    (sem_seq (sem_if (sem_tTest (sem_bin r2_isn sem_peek sem_non)) (sem_ret sem_non) sem_skip)
    (sem_seq (sem_frz (is := [2]) (sem_asgG sem_var (sem_gTup (n := 2) (sem_gsC (sem_gName (i := 3)) (sem_gsC (sem_gName (i := 1)) sem_gsN)))))
    (sem_seq (sem_set sem_str)
    (sem_seq (sem_while (μ := fuel) (sem_tTest (sem_bin r2_lt (SemE.look (sem_callB c1_len (sem_conB sem_peek sem_nilB))) sem_peek)) (sem_kill (is := [5]) (sem_seq (sem_set (sem_call (sem_conA sem_var (sem_conA sem_var sem_nilA))))
    (sem_seq (sem_if (sem_tTest (sem_bin r2_isn sem_peek sem_non)) (sem_ret sem_non) sem_skip)
    (sem_seq (sem_set (sem_call (sem_conA (sem_bin r2_ix sem_peek sem_int) sem_nilA)))
    (sem_seq (sem_if (sem_tTest (sem_bin r2_isn sem_peek sem_non)) (sem_ret sem_non) sem_skip)
    (sem_seq (sem_set (sem_bin r2_add sem_peek sem_peek))
    (sem_set (sem_bin r2_ix sem_peek sem_int)))))))))
    (sem_frz (is := [4]) (sem_ret (sem_tup (sem_conA sem_var (sem_conA sem_var sem_nilA))))))))))
theorem ok_take_labels (Bz : Bl K mg cm A_NotABlock) {t_WORD_CHARS : Tok} (C_WORD_CHARS : True ∧ mg "WORD_CHARS" = some (.str "abcdefghijklmnopqrstuvwxyz0123456789_" t_WORD_CHARS)) {f_take_number : Addr} {fd_take_number : FuncData} (T_take_number : Fn K mg "take_number" s_take_number ["data", "at"] f_take_number fd_take_number) {f_take_text : Addr} {fd_take_text : FuncData} (T_take_text : Fn K mg "take_text" s_take_text ["data", "at"] f_take_text fd_take_text) {f_char_at : Addr} {fd_char_at : FuncData} (T_char_at : Fn K mg "char_at" s_char_at ["place"] f_char_at fd_char_at) {f_take_labels : Addr} {fd_take_labels : FuncData} (T_take_labels : Fn K mg "take_labels" s_take_labels ["data", "at"] f_take_labels fd_take_labels) : FnOk P w K mg base CX0 3 f_take_labels fd_take_labels ["data", "at"] (spF w K cm 2 take_labels_f) := by
  have G_take_number : FnOk P w K mg base CX0 1 f_take_number fd_take_number ["data", "at"] (spF w K cm 2 take_number_f) := ok_take_number Bz  T_take_number
  have G_take_text : FnOk P w K mg base CX0 2 f_take_text fd_take_text ["data", "at"] (spF w K cm 2 take_text_f) := ok_take_text Bz C_WORD_CHARS T_take_number T_char_at T_take_text
  refine mk_ok (k := 2) T_take_labels.F sc_take_labels fun cdv A outer s H E hr => ⟨_,
    (pss_cons (ps_set (i := 2) sc_take_labels.nd rfl (.inl rfl) (pe_call (G_take_number) (hr.mono (by omega)) (by rfl) T_take_number.m T_take_number.F.kp T_take_number.b .nil (passE (E := E)) (pa_cons (pv 0) (pa_cons (pv 1) pa_nil))))
    (pss_cons (ps_if (pt_cmpR op_isN (pv 2) pe_non (nomark _)) (pss_one (ps_ret pe_non)) pss_nil)
    (pss_cons (ps_asg (pv 2) (pg_sq (by rfl) (pgs_cons (pg_name (i := 3) sc_take_labels.nd rfl (.inl rfl)) (pgs_cons (pg_name (i := 1) sc_take_labels.nd rfl (.inl rfl)) pgs_nil))))
    (pss_cons (ps_set (i := 4) sc_take_labels.nd rfl (.inl rfl) (pe_lst pa_nil))
    (pss_cons (ps_while PassesOwn.never (pt_cmpR o_lt (pe_callB cb_len (by rfl) Bz.len_ (by decide +kernel) (pa_cons (pv 4) pa_nil)) (pv 3) (nomark _)) (pss_cons (ps_set (i := 5) sc_take_labels.nd rfl (.inl rfl) (pe_call (G_take_text) (hr.mono (by omega)) (by rfl) T_take_text.m T_take_text.F.kp T_take_text.b .nil (passE (E := E)) (pa_cons (pv 0) (pa_cons (pv 1) pa_nil))))
    (pss_cons (ps_if (pt_cmpR op_isN (pv 5) pe_non (nomark _)) (pss_one (ps_ret pe_non)) pss_nil)
    (pss_cons (ps_set (i := 6) sc_take_labels.nd rfl (.inl rfl) (pe_call (G_take_text) (hr.mono (by omega)) (by rfl) T_take_text.m T_take_text.F.kp T_take_text.b .nil (passE (E := E)) (pa_cons (pv 0) (pa_cons (pe_ix ix_seq (pv 5) pe_int (fun _ _ => rfl)) pa_nil))))
    (pss_cons (ps_if (pt_cmpR op_isN (pv 6) pe_non (nomark _)) (pss_one (ps_ret pe_non)) pss_nil)
    (pss_cons (ps_expr (pe_bm PySem.F.plainAttrs_list PySem.F.slot_list_append PySem.F.type_list_append mt_append (pv 4) (pa_cons (pe_tup (pa_cons (pe_ix ix_seq (pv 5) pe_int (fun _ _ => rfl)) (pa_cons (pe_ix ix_seq (pv 6) pe_int (fun _ _ => rfl)) pa_nil))) pa_nil)))
    (pss_one (ps_set (i := 1) sc_take_labels.nd rfl (.inl rfl) (pe_ix ix_seq (pv 6) pe_int (fun _ _ => rfl))))))))))
    (pss_one (ps_ret (pe_tup (pa_cons (pe_callTy cb_tup (by rfl) Bz.tuple_ (by decide +kernel) (pa_cons (pv 4) pa_nil)) (pa_cons (pv 1) pa_nil)))))))))), ?_⟩
  exact fun ex => (sem_seq (sem_set (sem_call (sem_conA sem_var (sem_conA sem_var sem_nilA))))
    (sem_seq (sem_if (sem_tTest (sem_bin r2_isn sem_peek sem_non)) (sem_ret sem_non) sem_skip)
    (sem_seq (sem_frz (is := [2]) (sem_asgG sem_var (sem_gTup (n := 2) (sem_gsC (sem_gName (i := 3)) (sem_gsC (sem_gName (i := 1)) sem_gsN)))))
    (sem_seq (sem_set (sem_lst sem_nilA))
    (sem_seq (sem_while (μ := fuel) (sem_tTest (sem_bin r2_lt (SemE.look (sem_callB c1_len (sem_conB sem_peek sem_nilB))) sem_peek)) (sem_kill (is := [5, 6]) (sem_seq (sem_set (sem_call (sem_conA sem_var (sem_conA sem_var sem_nilA))))
    (sem_seq (sem_if (sem_tTest (sem_bin r2_isn sem_peek sem_non)) (sem_ret sem_non) sem_skip)
    (sem_seq (sem_set (sem_call (sem_conA sem_var (sem_conA (sem_bin r2_ix sem_peek sem_int) sem_nilA))))
    (sem_seq (sem_if (sem_tTest (sem_bin r2_isn sem_peek sem_non)) (sem_ret sem_non) sem_skip)
    (sem_seq (sem_app (i := 4) (sem_tup (sem_conA (sem_bin r2_ix sem_peek sem_int) (sem_conA (sem_bin r2_ix sem_peek sem_int) sem_nilA))))
    (sem_set (sem_bin r2_ix sem_peek sem_int)))))))))
    (sem_ret (sem_tup (sem_conA (sem_callB c1_tup (sem_conB sem_peek sem_nilB)) (sem_conA sem_var sem_nilA)))))))))
theorem ok_are_plain_labels (Bz : Bl K mg cm A_NotABlock) {t_LETTERS : Tok} {t_MOST_CHARS : Tok} {t_MOST_LABELS : Tok} {t_WORD_CHARS : Tok} (C_LETTERS : True ∧ mg "LETTERS" = some (.str "abcdefghijklmnopqrstuvwxyz" t_LETTERS)) (C_MOST_CHARS : True ∧ mg "MOST_CHARS" = some (.int 20 t_MOST_CHARS)) (C_MOST_LABELS : True ∧ mg "MOST_LABELS" = some (.int 6 t_MOST_LABELS)) (C_WORD_CHARS : True ∧ mg "WORD_CHARS" = some (.str "abcdefghijklmnopqrstuvwxyz0123456789_" t_WORD_CHARS)) {f_is_name : Addr} {fd_is_name : FuncData} (T_is_name : Fn K mg "is_name" s_is_name ["text"] f_is_name fd_is_name) {f_is_value : Addr} {fd_is_value : FuncData} (T_is_value : Fn K mg "is_value" s_is_value ["text"] f_is_value fd_is_value) {f_are_plain_labels : Addr} {fd_are_plain_labels : FuncData} (T_are_plain_labels : Fn K mg "are_plain_labels" s_are_plain_labels ["labels"] f_are_plain_labels fd_are_plain_labels) : FnOk P w K mg base CX0 3 f_are_plain_labels fd_are_plain_labels ["labels"] (spF w K cm 1 are_plain_labels_f) := by
  have G_is_name : FnOk P w K mg base CX0 2 f_is_name fd_is_name ["text"] (spF w K cm 1 is_name_f) := ok_is_name Bz C_LETTERS C_MOST_CHARS C_WORD_CHARS T_is_value T_is_name
  have G_is_value : FnOk P w K mg base CX0 1 f_is_value fd_is_value ["text"] (spF w K cm 1 is_value_f) := ok_is_value Bz C_MOST_CHARS C_WORD_CHARS  T_is_value
  refine mk_ok (k := 2) T_are_plain_labels.F sc_are_plain_labels fun cdv A outer s H E hr => ⟨_,
    (pss_cons (ps_if (pt_cmpR o_gt (pe_callB cb_len (by rfl) Bz.len_ (by decide +kernel) (pa_cons (pv 0) pa_nil)) (pe_glob (v := .int 6) (by rfl) C_MOST_LABELS.2 ⟨_, rfl⟩) (nomark _)) (pss_one (ps_ret pe_bl)) pss_nil)
    (pss_cons (ps_set (i := 1) sc_are_plain_labels.nd rfl (.inl rfl) pe_str)
    (pss_cons (ps_for PassesOwn.never rfl (pi_seq (pv 0)) (pg_sq (by rfl) (pgs_cons (pg_name (i := 2) sc_are_plain_labels.nd rfl (.inl rfl)) (pgs_cons (pg_name (i := 3) sc_are_plain_labels.nd rfl (.inl rfl)) pgs_nil))) (pss_cons (ps_if (PW.pt (pw_or (pt_not (pt_truth (pe_call (G_is_name) (hr.mono (by omega)) (by rfl) T_is_name.m T_is_name.F.kp T_is_name.b .nil (passE (E := E)) (pa_cons (pv 2) pa_nil)) (fun _ => rfl))) (pw_or (pt_not (pt_truth (pe_call (G_is_value) (hr.mono (by omega)) (by rfl) T_is_value.m T_is_value.F.kp T_is_value.b .nil (passE (E := E)) (pa_cons (pv 3) pa_nil)) (fun _ => rfl))) (pw_or1 (pt_cmpR o_le (pv 2) (pv 1) (nomark _)))))) (pss_one (ps_ret pe_bl)) pss_nil)
    (pss_one (ps_set (i := 1) sc_are_plain_labels.nd rfl (.inl rfl) (pv 2)))))
    (pss_one (ps_ret pe_bl))))), ?_⟩
  exact fun ex => (sem_seq (sem_if (sem_tTest (sem_bin r2_gt (SemE.look (sem_callB c1_len (sem_conB sem_peek sem_nilB))) sem_int)) (sem_ret sem_bl) sem_skip)
    (sem_seq (sem_set sem_str)
    (sem_seq (sem_for (sem_seqI sem_var) (sem_gTup (n := 2) (sem_gsC (sem_gName (i := 2)) (sem_gsC (sem_gName (i := 3)) sem_gsN))) (sem_kill (is := [2, 3]) (sem_seq (sem_if (sem_or (sem_not (sem_tru (SemE.look (sem_call (sem_conA sem_var sem_nilA))))) (sem_or (sem_not (sem_tru (SemE.look (sem_call (sem_conA sem_var sem_nilA))))) (sem_tTest (sem_bin r2_le sem_peek sem_peek)))) (sem_ret sem_bl) sem_skip)
    (sem_set sem_var))))
    (sem_ret sem_bl))))
theorem ok_is_plain (Bz : Bl K mg cm A_NotABlock) {t_LAST_TIME : Tok} {t_LETTERS : Tok} {t_MOST_CHARS : Tok} {t_MOST_LABELS : Tok} {t_VALUE_BOUND : Tok} {t_WORD_CHARS : Tok} (C_LAST_TIME : True ∧ mg "LAST_TIME" = some (.int 10000 t_LAST_TIME)) (C_LETTERS : True ∧ mg "LETTERS" = some (.str "abcdefghijklmnopqrstuvwxyz" t_LETTERS)) (C_MOST_CHARS : True ∧ mg "MOST_CHARS" = some (.int 20 t_MOST_CHARS)) (C_MOST_LABELS : True ∧ mg "MOST_LABELS" = some (.int 6 t_MOST_LABELS)) (C_VALUE_BOUND : True ∧ mg "VALUE_BOUND" = some (.int 1000000000000000 t_VALUE_BOUND)) (C_WORD_CHARS : True ∧ mg "WORD_CHARS" = some (.str "abcdefghijklmnopqrstuvwxyz0123456789_" t_WORD_CHARS)) {f_are_plain_labels : Addr} {fd_are_plain_labels : FuncData} (T_are_plain_labels : Fn K mg "are_plain_labels" s_are_plain_labels ["labels"] f_are_plain_labels fd_are_plain_labels) {f_is_name : Addr} {fd_is_name : FuncData} (T_is_name : Fn K mg "is_name" s_is_name ["text"] f_is_name fd_is_name) {f_is_value : Addr} {fd_is_value : FuncData} (T_is_value : Fn K mg "is_value" s_is_value ["text"] f_is_value fd_is_value) {f_is_plain : Addr} {fd_is_plain : FuncData} (T_is_plain : Fn K mg "is_plain" s_is_plain ["sample"] f_is_plain fd_is_plain) : FnOk P w K mg base CX0 4 f_is_plain fd_is_plain ["sample"] (spF w K cm 1 is_plain_f) := by
  have G_are_plain_labels : FnOk P w K mg base CX0 3 f_are_plain_labels fd_are_plain_labels ["labels"] (spF w K cm 1 are_plain_labels_f) := ok_are_plain_labels Bz C_LETTERS C_MOST_CHARS C_MOST_LABELS C_WORD_CHARS T_is_name T_is_value T_are_plain_labels
  refine mk_ok (k := 3) T_is_plain.F sc_is_plain fun cdv A outer s H E hr => ⟨_,
    (pss_cons (ps_asg (pv 0) (pg_sq (by rfl) (pgs_cons (pg_name (i := 1) sc_is_plain.nd rfl (.inl rfl)) (pgs_cons (pg_name (i := 2) sc_is_plain.nd rfl (.inl rfl)) (pgs_cons (pg_name (i := 3) sc_is_plain.nd rfl (.inl rfl)) pgs_nil)))))
    (pss_one (ps_ret (pe_and (pe_call (G_are_plain_labels) (hr.mono (by omega)) (by rfl) T_are_plain_labels.m T_are_plain_labels.F.kp T_are_plain_labels.b .nil (passE (E := E)) (pa_cons (pv 1) pa_nil)) (pe_and (pe_chain o_le o_le pe_int (pv 2) (pe_glob (v := .int 10000) (by rfl) C_LAST_TIME.2 ⟨_, rfl⟩)) (pe_one (pe_cmpR o_lt (pe_callB cb_abs (by rfl) Bz.abs_ (by decide +kernel) (pa_cons (pv 3) pa_nil)) (pe_glob (v := .int 1000000000000000) (by rfl) C_VALUE_BOUND.2 ⟨_, rfl⟩) (nomark _)))))))), ?_⟩
  exact fun ex => (sem_seq (sem_asgG sem_var (sem_gTup (n := 3) (sem_gsC (sem_gName (i := 1)) (sem_gsC (sem_gName (i := 2)) (sem_gsC (sem_gName (i := 3)) sem_gsN)))))
    (sem_ret (sem_andV (SemE.look (sem_call (sem_conA sem_var sem_nilA))) (sem_andV (SemE.look (sem_chain r2_le r2_le sem_int sem_peek sem_int)) (sem_bin r2_lt (SemE.look (sem_callB c1_abs (sem_conB sem_peek sem_nilB))) sem_int)))))
theorem ok_series_of (Bz : Bl K mg cm A_NotABlock)  {f_series_of : Addr} {fd_series_of : FuncData} (T_series_of : Fn K mg "series_of" s_series_of ["view"] f_series_of fd_series_of) : FnOk P w K mg base CX0 1 f_series_of fd_series_of ["view"] (spF w K cm 1 series_of_f) := by
  refine mk_ok (k := 0) T_series_of.F sc_series_of fun cdv A outer s H E hr => ⟨_,
    (pss_cons (ps_set (i := 1) sc_series_of.nd rfl (.inl rfl) (pe_lst pa_nil))
    (pss_cons (ps_for PassesOwn.never rfl (pi_seq (pv 0)) (pg_sq (by rfl) (pgs_cons (pg_name (i := 2) sc_series_of.nd rfl (.inl rfl)) (pgs_cons (pg_name (i := 3) sc_series_of.nd rfl (.inl rfl)) (pgs_cons (pg_name (i := 4) sc_series_of.nd rfl (.inl rfl)) pgs_nil)))) (pss_cons (ps_if (PW.pt (pw_or (pt_not (pt_truth (pv 1) (fun _ => rfl))) (pw_or1 (pt_cmpR (o_ne hr.units) (pe_ix ix_seq (pe_ix ix_seq (pv 1) (pe_un un_neg pe_int) (fun _ _ => rfl)) pe_int (fun _ _ => rfl)) (pv 2) (nomark _))))) (pss_one (ps_expr (pe_bm PySem.F.plainAttrs_list PySem.F.slot_list_append PySem.F.type_list_append mt_append (pv 1) (pa_cons (pe_tup (pa_cons (pv 2) (pa_cons (pe_lst pa_nil) pa_nil))) pa_nil)))) pss_nil)
    (pss_one (ps_expr (pe_bm PySem.F.plainAttrs_list PySem.F.slot_list_append PySem.F.type_list_append mt_append (pe_ix ix_seq (pe_ix ix_seq (pv 1) (pe_un un_neg pe_int) (fun _ _ => rfl)) pe_int (fun _ _ => rfl)) (pa_cons (pe_tup (pa_cons (pv 3) (pa_cons (pv 4) pa_nil))) pa_nil))))))
    (pss_one (ps_ret (pv 1))))), ?_⟩
  exact fun ex => (sem_seq (sem_set (sem_lst sem_nilA))
    (sem_seq (sem_rows (i := 1) (sem_seqI sem_var) (sem_gTup (n := 3) (sem_gsC (sem_gName (i := 2)) (sem_gsC (sem_gName (i := 3)) (sem_gsC (sem_gName (i := 4)) sem_gsN)))) (by decide) (sn_kill (is := [2, 3, 4]) (sn_seq (sn_if (tn_or (tn_not tn_any) (tn_tB (en_bin r2_ne (en_last (j := 0) (SemE.look (sem_neg sem_int))) (en_of sem_peek))))
    (sn_new sem_var sem_nilA)
    sn_skip)
    (sn_push (j := 1) (SemE.look (sem_neg sem_int)) (sem_tup (sem_conA sem_var (sem_conA sem_var sem_nilA)))))))
    (sem_retV (i := 1))))
theorem ok_spread (Bz : Bl K mg cm A_NotABlock)  {f_spread : Addr} {fd_spread : FuncData} (T_spread : Fn K mg "spread" s_spread ["series"] f_spread fd_spread) : FnOk P w K mg base CX0 1 f_spread fd_spread ["series"] (spF w K cm 1 spread_f) := by
  refine mk_ok (k := 0) T_spread.F sc_spread fun cdv A outer s H E hr => ⟨_,
    (pss_cons (ps_set (i := 1) sc_spread.nd rfl (.inl rfl) (pe_lst pa_nil))
    (pss_cons (ps_for PassesOwn.never rfl (pi_seq (pv 0)) (pg_sq (by rfl) (pgs_cons (pg_name (i := 2) sc_spread.nd rfl (.inl rfl)) (pgs_cons (pg_name (i := 3) sc_spread.nd rfl (.inl rfl)) pgs_nil))) (pss_one (ps_for PassesOwn.never rfl (pi_seq (pv 3)) (pg_sq (by rfl) (pgs_cons (pg_name (i := 4) sc_spread.nd rfl (.inl rfl)) (pgs_cons (pg_name (i := 5) sc_spread.nd rfl (.inl rfl)) pgs_nil))) (pss_one (ps_expr (pe_bm PySem.F.plainAttrs_list PySem.F.slot_list_append PySem.F.type_list_append mt_append (pv 1) (pa_cons (pe_tup (pa_cons (pv 2) (pa_cons (pv 4) (pa_cons (pv 5) pa_nil)))) pa_nil)))))))
    (pss_one (ps_ret (pv 1))))), ?_⟩
  exact fun ex => (sem_seq (sem_set (sem_lst sem_nilA))
    (sem_seq (sem_for (sem_seqI sem_var) (sem_gTup (n := 2) (sem_gsC (sem_gName (i := 2)) (sem_gsC (sem_gName (i := 3)) sem_gsN))) (sem_kill (is := [2, 3, 4, 5]) (sem_for (sem_seqI sem_var) (sem_gTup (n := 2) (sem_gsC (sem_gName (i := 4)) (sem_gsC (sem_gName (i := 5)) sem_gsN))) (sem_kill (is := [4, 5]) (sem_app (i := 1) (sem_tup (sem_conA sem_var (sem_conA sem_var (sem_conA sem_var sem_nilA)))))))))
    (sem_retV (i := 1))))
theorem ok_put_points (Bz : Bl K mg cm A_NotABlock) {f_put_number : Addr} {fd_put_number : FuncData} (T_put_number : Fn K mg "put_number" s_put_number ["n"] f_put_number fd_put_number) {f_put_integer : Addr} {fd_put_integer : FuncData} (T_put_integer : Fn K mg "put_integer" s_put_integer ["n"] f_put_integer fd_put_integer) {f_put_points : Addr} {fd_put_points : FuncData} (T_put_points : Fn K mg "put_points" s_put_points ["start", "points"] f_put_points fd_put_points) : FnOk P w K mg base CX0 3 f_put_points fd_put_points ["start", "points"] (spF w K cm 2 put_points_f) := by
  have G_put_number : FnOk P w K mg base CX0 1 f_put_number fd_put_number ["n"] (spF w K cm 1 put_number_f) := ok_put_number Bz  T_put_number
  have G_put_integer : FnOk P w K mg base CX0 2 f_put_integer fd_put_integer ["n"] (spF w K cm 1 put_integer_f) := ok_put_integer Bz T_put_number T_put_integer
  refine mk_ok (k := 2) T_put_points.F sc_put_points fun cdv A outer s H E hr => ⟨_,
    (pss_cons (ps_set (i := 2) sc_put_points.nd rfl (.inl rfl) (pe_lst pa_nil))
    (pss_cons (ps_set (i := 3) sc_put_points.nd rfl (.inl rfl) (pv 0))
    (pss_cons (ps_set (i := 4) sc_put_points.nd rfl (.inl rfl) pe_int)
    (pss_cons (ps_for PassesOwn.never rfl (pi_seq (pv 1)) (pg_sq (by rfl) (pgs_cons (pg_name (i := 5) sc_put_points.nd rfl (.inl rfl)) (pgs_cons (pg_name (i := 6) sc_put_points.nd rfl (.inl rfl)) pgs_nil))) (pss_cons (ps_set (i := 2) sc_put_points.nd rfl (.inl rfl) (pe_op o_add (pe_op o_add (pv 2) (pe_call (G_put_number) (hr.mono (by omega)) (by rfl) T_put_number.m T_put_number.F.kp T_put_number.b .nil (passE (E := E)) (pa_cons (pe_op op_sub (pv 5) (pv 3)) pa_nil))) (pe_call (G_put_integer) (hr.mono (by omega)) (by rfl) T_put_integer.m T_put_integer.F.kp T_put_integer.b .nil (passE (E := E)) (pa_cons (pe_op op_sub (pv 6) (pv 4)) pa_nil))))
    (pss_cons (ps_set (i := 3) sc_put_points.nd rfl (.inl rfl) (pe_op o_add (pv 5) pe_int))
    (pss_one (ps_set (i := 4) sc_put_points.nd rfl (.inl rfl) (pv 6))))))
    (pss_one (ps_ret (pv 2))))))), ?_⟩
  exact fun ex => (sem_seq (sem_set (sem_lst sem_nilA))
    (sem_seq (sem_set sem_var)
    (sem_seq (sem_set sem_int)
    (sem_seq (sem_for (sem_seqI sem_var) (sem_gTup (n := 2) (sem_gsC (sem_gName (i := 5)) (sem_gsC (sem_gName (i := 6)) sem_gsN))) (sem_kill (is := [5, 6]) (sem_seq (sem_set (sem_bin r2_add (SemE.look (sem_bin r2_add sem_peek (SemE.look (sem_call (sem_conA (sem_bin r2_sub sem_peek sem_peek) sem_nilA))))) (SemE.look (sem_call (sem_conA (sem_bin r2_sub sem_peek sem_peek) sem_nilA)))))
    (sem_seq (sem_set (sem_bin r2_add sem_peek sem_int))
    (sem_set sem_var)))))
    (sem_retV (i := 2))))))
theorem ok_put_block (Bz : Bl K mg cm A_NotABlock) {f_put_number : Addr} {fd_put_number : FuncData} (T_put_number : Fn K mg "put_number" s_put_number ["n"] f_put_number fd_put_number) {f_put_labels : Addr} {fd_put_labels : FuncData} (T_put_labels : Fn K mg "put_labels" s_put_labels ["labels"] f_put_labels fd_put_labels) {f_put_text : Addr} {fd_put_text : FuncData} (T_put_text : Fn K mg "put_text" s_put_text ["text"] f_put_text fd_put_text) {f_put_points : Addr} {fd_put_points : FuncData} (T_put_points : Fn K mg "put_points" s_put_points ["start", "points"] f_put_points fd_put_points) {f_put_integer : Addr} {fd_put_integer : FuncData} (T_put_integer : Fn K mg "put_integer" s_put_integer ["n"] f_put_integer fd_put_integer) {f_put_block : Addr} {fd_put_block : FuncData} (T_put_block : Fn K mg "put_block" s_put_block ["block"] f_put_block fd_put_block) : FnOk P w K mg base CX0 4 f_put_block fd_put_block ["block"] (spF w K cm 1 put_block_f) := by
  have G_put_number : FnOk P w K mg base CX0 1 f_put_number fd_put_number ["n"] (spF w K cm 1 put_number_f) := ok_put_number Bz  T_put_number
  have G_put_labels : FnOk P w K mg base CX0 3 f_put_labels fd_put_labels ["labels"] (spF w K cm 1 put_labels_f) := ok_put_labels Bz T_put_number T_put_text T_put_labels
  have G_put_points : FnOk P w K mg base CX0 3 f_put_points fd_put_points ["start", "points"] (spF w K cm 2 put_points_f) := ok_put_points Bz T_put_number T_put_integer T_put_points
  refine mk_ok (k := 3) T_put_block.F sc_put_block fun cdv A outer s H E hr => ⟨_,
    (pss_cons (ps_asg (pv 0) (pg_sq (by rfl) (pgs_cons (pg_name (i := 1) sc_put_block.nd rfl (.inl rfl)) (pgs_cons (pg_name (i := 2) sc_put_block.nd rfl (.inl rfl)) (pgs_cons (pg_name (i := 3) sc_put_block.nd rfl (.inl rfl)) pgs_nil)))))
    (pss_cons (ps_set (i := 4) sc_put_block.nd rfl (.inl rfl) (pe_op o_add (pe_op o_add (pe_call (G_put_number) (hr.mono (by omega)) (by rfl) T_put_number.m T_put_number.F.kp T_put_number.b .nil (passE (E := E)) (pa_cons (pv 1) pa_nil)) (pe_call (G_put_number) (hr.mono (by omega)) (by rfl) T_put_number.m T_put_number.F.kp T_put_number.b .nil (passE (E := E)) (pa_cons (pv 2) pa_nil))) (pe_call (G_put_number) (hr.mono (by omega)) (by rfl) T_put_number.m T_put_number.F.kp T_put_number.b .nil (passE (E := E)) (pa_cons (pe_callB cb_len (by rfl) Bz.len_ (by decide +kernel) (pa_cons (pv 3) pa_nil)) pa_nil))))
    (pss_cons (ps_for PassesOwn.never rfl (pi_seq (pv 3)) (pg_sq (by rfl) (pgs_cons (pg_name (i := 5) sc_put_block.nd rfl (.inl rfl)) (pgs_cons (pg_name (i := 6) sc_put_block.nd rfl (.inl rfl)) pgs_nil))) (pss_one (ps_set (i := 4) sc_put_block.nd rfl (.inl rfl) (pe_op o_add (pe_op o_add (pe_op o_add (pv 4) (pe_call (G_put_labels) (hr.mono (by omega)) (by rfl) T_put_labels.m T_put_labels.F.kp T_put_labels.b .nil (passE (E := E)) (pa_cons (pv 5) pa_nil))) (pe_call (G_put_number) (hr.mono (by omega)) (by rfl) T_put_number.m T_put_number.F.kp T_put_number.b .nil (passE (E := E)) (pa_cons (pe_callB cb_len (by rfl) Bz.len_ (by decide +kernel) (pa_cons (pv 6) pa_nil)) pa_nil))) (pe_call (G_put_points) (hr.mono (by omega)) (by rfl) T_put_points.m T_put_points.F.kp T_put_points.b .nil (passE (E := E)) (pa_cons (pv 1) (pa_cons (pv 6) pa_nil)))))))
    (pss_one (ps_ret (pv 4)))))), ?_⟩
  exact fun ex => (sem_seq (sem_asgG sem_var (sem_gTup (n := 3) (sem_gsC (sem_gName (i := 1)) (sem_gsC (sem_gName (i := 2)) (sem_gsC (sem_gName (i := 3)) sem_gsN)))))
    (sem_seq (sem_set (sem_bin r2_add (SemE.look (sem_bin r2_add (SemE.look (sem_call (sem_conA sem_var sem_nilA))) (SemE.look (sem_call (sem_conA sem_var sem_nilA))))) (SemE.look (sem_call (sem_conA (sem_callB c1_len (sem_conB sem_peek sem_nilB)) sem_nilA)))))
    (sem_seq (sem_for (sem_seqI sem_var) (sem_gTup (n := 2) (sem_gsC (sem_gName (i := 5)) (sem_gsC (sem_gName (i := 6)) sem_gsN))) (sem_kill (is := [5, 6]) (sem_set (sem_bin r2_add (SemE.look (sem_bin r2_add (SemE.look (sem_bin r2_add sem_peek (SemE.look (sem_call (sem_conA sem_var sem_nilA))))) (SemE.look (sem_call (sem_conA (sem_callB c1_len (sem_conB sem_peek sem_nilB)) sem_nilA))))) (SemE.look (sem_call (sem_conA sem_var (sem_conA sem_var sem_nilA))))))))
    (sem_retV (i := 4)))))
theorem ok_take_points (Bz : Bl K mg cm A_NotABlock) {f_take_number : Addr} {fd_take_number : FuncData} (T_take_number : Fn K mg "take_number" s_take_number ["data", "at"] f_take_number fd_take_number) {f_take_integer : Addr} {fd_take_integer : FuncData} (T_take_integer : Fn K mg "take_integer" s_take_integer ["data", "at"] f_take_integer fd_take_integer) {f_take_points : Addr} {fd_take_points : FuncData} (T_take_points : Fn K mg "take_points" s_take_points ["data", "at", "start", "many"] f_take_points fd_take_points) : FnOk P w K mg base CX0 3 f_take_points fd_take_points ["data", "at", "start", "many"] (spF w K cm 4 take_points_f) := by
  have G_take_number : FnOk P w K mg base CX0 1 f_take_number fd_take_number ["data", "at"] (spF w K cm 2 take_number_f) := ok_take_number Bz  T_take_number
  have G_take_integer : FnOk P w K mg base CX0 2 f_take_integer fd_take_integer ["data", "at"] (spF w K cm 2 take_integer_f) := ok_take_integer Bz T_take_number T_take_integer
  refine mk_ok (k := 2) T_take_points.F sc_take_points fun cdv A outer s H E hr => ⟨_,
    (pss_cons (ps_set (i := 4) sc_take_points.nd rfl (.inl rfl) (pe_lst pa_nil))
    (pss_cons (ps_set (i := 5) sc_take_points.nd rfl (.inl rfl) (pv 2))
    (pss_cons (ps_set (i := 6) sc_take_points.nd rfl (.inl rfl) pe_int)
    (pss_cons (ps_while PassesOwn.never (pt_cmpR o_lt (pe_callB cb_len (by rfl) Bz.len_ (by decide +kernel) (pa_cons (pv 4) pa_nil)) (pv 3) (nomark _)) (pss_cons (ps_set (i := 7) sc_take_points.nd rfl (.inl rfl) (pe_call (G_take_number) (hr.mono (by omega)) (by rfl) T_take_number.m T_take_number.F.kp T_take_number.b .nil (passE (E := E)) (pa_cons (pv 0) (pa_cons (pv 1) pa_nil))))
    (pss_cons (ps_if (pt_cmpR op_isN (pv 7) pe_non (nomark _)) (pss_one (ps_ret pe_non)) pss_nil)
    (pss_cons (ps_set (i := 8) sc_take_points.nd rfl (.inl rfl) (pe_call (G_take_integer) (hr.mono (by omega)) (by rfl) T_take_integer.m T_take_integer.F.kp T_take_integer.b .nil (passE (E := E)) (pa_cons (pv 0) (pa_cons (pe_ix ix_seq (pv 7) pe_int (fun _ _ => rfl)) pa_nil))))
    (pss_cons (ps_if (pt_cmpR op_isN (pv 8) pe_non (nomark _)) (pss_one (ps_ret pe_non)) pss_nil)
    (pss_cons (ps_set (i := 9) sc_take_points.nd rfl (.inl rfl) (pe_op o_add (pv 5) (pe_ix ix_seq (pv 7) pe_int (fun _ _ => rfl))))
    (pss_cons (ps_set (i := 6) sc_take_points.nd rfl (.inl rfl) (pe_op o_add (pv 6) (pe_ix ix_seq (pv 8) pe_int (fun _ _ => rfl))))
    (pss_cons (ps_expr (pe_bm PySem.F.plainAttrs_list PySem.F.slot_list_append PySem.F.type_list_append mt_append (pv 4) (pa_cons (pe_tup (pa_cons (pv 9) (pa_cons (pv 6) pa_nil))) pa_nil)))
    (pss_cons (ps_set (i := 5) sc_take_points.nd rfl (.inl rfl) (pe_op o_add (pv 9) pe_int))
    (pss_one (ps_set (i := 1) sc_take_points.nd rfl (.inl rfl) (pe_ix ix_seq (pv 8) pe_int (fun _ _ => rfl)))))))))))))
    (pss_one (ps_ret (pe_tup (pa_cons (pv 4) (pa_cons (pv 1) pa_nil))))))))), ?_⟩
  exact fun ex => (sem_seq (sem_set (sem_lst sem_nilA))
    (sem_seq (sem_set sem_var)
    (sem_seq (sem_set sem_int)
    (sem_seq (sem_while (μ := fuel) (sem_tTest (sem_bin r2_lt (SemE.look (sem_callB c1_len (sem_conB sem_peek sem_nilB))) sem_peek)) (sem_kill (is := [7, 8, 9]) (sem_seq (sem_set (sem_call (sem_conA sem_var (sem_conA sem_var sem_nilA))))
    (sem_seq (sem_if (sem_tTest (sem_bin r2_isn sem_peek sem_non)) (sem_ret sem_non) sem_skip)
    (sem_seq (sem_set (sem_call (sem_conA sem_var (sem_conA (sem_bin r2_ix sem_peek sem_int) sem_nilA))))
    (sem_seq (sem_if (sem_tTest (sem_bin r2_isn sem_peek sem_non)) (sem_ret sem_non) sem_skip)
    (sem_seq (sem_set (sem_bin r2_add sem_peek (SemE.look (sem_bin r2_ix sem_peek sem_int))))
    (sem_seq (sem_set (sem_bin r2_add sem_peek (SemE.look (sem_bin r2_ix sem_peek sem_int))))
    (sem_seq (sem_frz (is := [6, 9]) (sem_app (i := 4) (sem_tup (sem_conA sem_var (sem_conA sem_var sem_nilA)))))
    (sem_seq (sem_set (sem_bin r2_add sem_peek sem_int))
    (sem_set (sem_bin r2_ix sem_peek sem_int))))))))))))
    (sem_frz (is := [4]) (sem_ret (sem_tup (sem_conA sem_var (sem_conA sem_var sem_nilA)))))))))
theorem ok_take_series (Bz : Bl K mg cm A_NotABlock) {t_WORD_CHARS : Tok} (C_WORD_CHARS : True ∧ mg "WORD_CHARS" = some (.str "abcdefghijklmnopqrstuvwxyz0123456789_" t_WORD_CHARS)) {f_take_labels : Addr} {fd_take_labels : FuncData} (T_take_labels : Fn K mg "take_labels" s_take_labels ["data", "at"] f_take_labels fd_take_labels) {f_take_number : Addr} {fd_take_number : FuncData} (T_take_number : Fn K mg "take_number" s_take_number ["data", "at"] f_take_number fd_take_number) {f_take_text : Addr} {fd_take_text : FuncData} (T_take_text : Fn K mg "take_text" s_take_text ["data", "at"] f_take_text fd_take_text) {f_char_at : Addr} {fd_char_at : FuncData} (T_char_at : Fn K mg "char_at" s_char_at ["place"] f_char_at fd_char_at) {f_take_points : Addr} {fd_take_points : FuncData} (T_take_points : Fn K mg "take_points" s_take_points ["data", "at", "start", "many"] f_take_points fd_take_points) {f_take_integer : Addr} {fd_take_integer : FuncData} (T_take_integer : Fn K mg "take_integer" s_take_integer ["data", "at"] f_take_integer fd_take_integer) {f_take_series : Addr} {fd_take_series : FuncData} (T_take_series : Fn K mg "take_series" s_take_series ["data", "at", "start"] f_take_series fd_take_series) : FnOk P w K mg base CX0 4 f_take_series fd_take_series ["data", "at", "start"] (spF w K cm 3 take_series_f) := by
  have G_take_labels : FnOk P w K mg base CX0 3 f_take_labels fd_take_labels ["data", "at"] (spF w K cm 2 take_labels_f) := ok_take_labels Bz C_WORD_CHARS T_take_number T_take_text T_char_at T_take_labels
  have G_take_number : FnOk P w K mg base CX0 1 f_take_number fd_take_number ["data", "at"] (spF w K cm 2 take_number_f) := ok_take_number Bz  T_take_number
  have G_take_points : FnOk P w K mg base CX0 3 f_take_points fd_take_points ["data", "at", "start", "many"] (spF w K cm 4 take_points_f) := ok_take_points Bz T_take_number T_take_integer T_take_points
  refine mk_ok (k := 3) T_take_series.F sc_take_series fun cdv A outer s H E hr => ⟨_,
    (pss_cons (ps_set (i := 3) sc_take_series.nd rfl (.inl rfl) (pe_call (G_take_labels) (hr.mono (by omega)) (by rfl) T_take_labels.m T_take_labels.F.kp T_take_labels.b .nil (passE (E := E)) (pa_cons (pv 0) (pa_cons (pv 1) pa_nil))))
    (pss_cons (ps_if (pt_cmpR op_isN (pv 3) pe_non (nomark _)) (pss_one (ps_ret pe_non)) pss_nil)
    (pss_cons (ps_set (i := 4) sc_take_series.nd rfl (.inl rfl) (pe_call (G_take_number) (hr.mono (by omega)) (by rfl) T_take_number.m T_take_number.F.kp T_take_number.b .nil (passE (E := E)) (pa_cons (pv 0) (pa_cons (pe_ix ix_seq (pv 3) pe_int (fun _ _ => rfl)) pa_nil))))
    (pss_cons (ps_if (pt_cmpR op_isN (pv 4) pe_non (nomark _)) (pss_one (ps_ret pe_non)) pss_nil)
    (pss_cons (ps_set (i := 5) sc_take_series.nd rfl (.inl rfl) (pe_call (G_take_points) (hr.mono (by omega)) (by rfl) T_take_points.m T_take_points.F.kp T_take_points.b .nil (passE (E := E)) (pa_cons (pv 0) (pa_cons (pe_ix ix_seq (pv 4) pe_int (fun _ _ => rfl)) (pa_cons (pv 2) (pa_cons (pe_ix ix_seq (pv 4) pe_int (fun _ _ => rfl)) pa_nil))))))
    (pss_cons (ps_if (pt_cmpR op_isN (pv 5) pe_non (nomark _)) (pss_one (ps_ret pe_non)) pss_nil)
    (pss_one (ps_ret (pe_tup (pa_cons (pe_tup (pa_cons (pe_ix ix_seq (pv 3) pe_int (fun _ _ => rfl)) (pa_cons (pe_ix ix_seq (pv 5) pe_int (fun _ _ => rfl)) pa_nil))) (pa_cons (pe_ix ix_seq (pv 5) pe_int (fun _ _ => rfl)) pa_nil))))))))))), ?_⟩
  exact fun ex => (sem_seq (sem_set (sem_call (sem_conA sem_var (sem_conA sem_var sem_nilA))))
    (sem_seq (sem_if (sem_tTest (sem_bin r2_isn sem_peek sem_non)) (sem_ret sem_non) sem_skip)
    (sem_seq (sem_set (sem_call (sem_conA sem_var (sem_conA (sem_bin r2_ix sem_peek sem_int) sem_nilA))))
    (sem_seq (sem_if (sem_tTest (sem_bin r2_isn sem_peek sem_non)) (sem_ret sem_non) sem_skip)
    (sem_seq (sem_set (sem_call (sem_conA sem_var (sem_conA (sem_bin r2_ix sem_peek sem_int) (sem_conA sem_var (sem_conA (sem_bin r2_ix sem_peek sem_int) sem_nilA))))))
    (sem_seq (sem_if (sem_tTest (sem_bin r2_isn sem_peek sem_non)) (sem_ret sem_non) sem_skip)
    (sem_ret (sem_tup (sem_conA (sem_tup (sem_conA (sem_bin r2_ix sem_peek sem_int) (sem_conA (sem_bin r2_ix sem_peek sem_int) sem_nilA))) (sem_conA (sem_bin r2_ix sem_peek sem_int) sem_nilA))))))))))
theorem ok_take_all_series (Bz : Bl K mg cm A_NotABlock) {t_WORD_CHARS : Tok} (C_WORD_CHARS : True ∧ mg "WORD_CHARS" = some (.str "abcdefghijklmnopqrstuvwxyz0123456789_" t_WORD_CHARS)) {f_take_number : Addr} {fd_take_number : FuncData} (T_take_number : Fn K mg "take_number" s_take_number ["data", "at"] f_take_number fd_take_number) {f_take_series : Addr} {fd_take_series : FuncData} (T_take_series : Fn K mg "take_series" s_take_series ["data", "at", "start"] f_take_series fd_take_series) {f_take_labels : Addr} {fd_take_labels : FuncData} (T_take_labels : Fn K mg "take_labels" s_take_labels ["data", "at"] f_take_labels fd_take_labels) {f_take_text : Addr} {fd_take_text : FuncData} (T_take_text : Fn K mg "take_text" s_take_text ["data", "at"] f_take_text fd_take_text) {f_char_at : Addr} {fd_char_at : FuncData} (T_char_at : Fn K mg "char_at" s_char_at ["place"] f_char_at fd_char_at) {f_take_points : Addr} {fd_take_points : FuncData} (T_take_points : Fn K mg "take_points" s_take_points ["data", "at", "start", "many"] f_take_points fd_take_points) {f_take_integer : Addr} {fd_take_integer : FuncData} (T_take_integer : Fn K mg "take_integer" s_take_integer ["data", "at"] f_take_integer fd_take_integer) {f_take_all_series : Addr} {fd_take_all_series : FuncData} (T_take_all_series : Fn K mg "take_all_series" s_take_all_series ["data", "at", "start"] f_take_all_series fd_take_all_series) : FnOk P w K mg base CX0 5 f_take_all_series fd_take_all_series ["data", "at", "start"] (spF w K cm 3 take_all_series_f) := by
  have G_take_number : FnOk P w K mg base CX0 1 f_take_number fd_take_number ["data", "at"] (spF w K cm 2 take_number_f) := ok_take_number Bz  T_take_number
  have G_take_series : FnOk P w K mg base CX0 4 f_take_series fd_take_series ["data", "at", "start"] (spF w K cm 3 take_series_f) := ok_take_series Bz C_WORD_CHARS T_take_labels T_take_number T_take_text T_char_at T_take_points T_take_integer T_take_series
  refine mk_ok (k := 4) T_take_all_series.F sc_take_all_series fun cdv A outer s H E hr => ⟨_,
    (pss_cons (ps_set (i := 3) sc_take_all_series.nd rfl (.inl rfl) (pe_call (G_take_number) (hr.mono (by omega)) (by rfl) T_take_number.m T_take_number.F.kp T_take_number.b .nil (passE (E := E)) (pa_cons (pv 0) (pa_cons (pv 1) pa_nil))))
    (pss_cons (ps_if (pt_cmpR op_isN (pv 3) pe_non (nomark _)) (pss_one (ps_ret pe_non)) pss_nil)
    (pss_cons (ps_set (i := 1) sc_take_all_series.nd rfl (.inl rfl) (pe_ix ix_seq (pv 3) pe_int (fun _ _ => rfl)))
    (pss_cons (ps_set (i := 4) sc_take_all_series.nd rfl (.inl rfl) (pe_lst pa_nil))
    (pss_cons (ps_while PassesOwn.never (pt_cmpR o_lt (pe_callB cb_len (by rfl) Bz.len_ (by decide +kernel) (pa_cons (pv 4) pa_nil)) (pe_ix ix_seq (pv 3) pe_int (fun _ _ => rfl)) (nomark _)) (pss_cons (ps_set (i := 5) sc_take_all_series.nd rfl (.inl rfl) (pe_call (G_take_series) (hr.mono (by omega)) (by rfl) T_take_series.m T_take_series.F.kp T_take_series.b .nil (passE (E := E)) (pa_cons (pv 0) (pa_cons (pv 1) (pa_cons (pv 2) pa_nil)))))
    (pss_cons (ps_if (pt_cmpR op_isN (pv 5) pe_non (nomark _)) (pss_one (ps_ret pe_non)) pss_nil)
    (pss_cons (ps_expr (pe_bm PySem.F.plainAttrs_list PySem.F.slot_list_append PySem.F.type_list_append mt_append (pv 4) (pa_cons (pe_ix ix_seq (pv 5) pe_int (fun _ _ => rfl)) pa_nil)))
    (pss_one (ps_set (i := 1) sc_take_all_series.nd rfl (.inl rfl) (pe_ix ix_seq (pv 5) pe_int (fun _ _ => rfl))))))))
    (pss_cons (ps_if (pt_cmpR (o_ne hr.units) (pv 1) (pe_callB cb_len (by rfl) Bz.len_ (by decide +kernel) (pa_cons (pv 0) pa_nil)) (nomark _)) (pss_one (ps_ret pe_non)) pss_nil)
    (pss_one (ps_ret (pv 4))))))))), ?_⟩
  exact fun ex => (sem_seq (sem_set (sem_call (sem_conA sem_var (sem_conA sem_var sem_nilA))))
    (sem_seq (sem_if (sem_tTest (sem_bin r2_isn sem_peek sem_non)) (sem_ret sem_non) sem_skip)
    (sem_seq (sem_set (sem_bin r2_ix sem_peek sem_int))
    (sem_seq (sem_set (sem_lst sem_nilA))
    (sem_seq (sem_while (μ := fuel) (sem_tTest (sem_bin r2_lt (SemE.look (sem_callB c1_len (sem_conB sem_peek sem_nilB))) (SemE.look (sem_bin r2_ix sem_peek sem_int)))) (sem_kill (is := [5]) (sem_seq (sem_set (sem_call (sem_conA sem_var (sem_conA sem_var (sem_conA sem_var sem_nilA)))))
    (sem_seq (sem_if (sem_tTest (sem_bin r2_isn sem_peek sem_non)) (sem_ret sem_non) sem_skip)
    (sem_seq (sem_app (i := 4) (sem_bin r2_ix sem_peek sem_int))
    (sem_set (sem_bin r2_ix sem_peek sem_int)))))))
    (sem_seq (sem_if (sem_tTest (sem_bin r2_ne sem_peek (SemE.look (sem_callB c1_len (sem_conB sem_peek sem_nilB))))) (sem_ret sem_non) sem_skip)
    (sem_retV (i := 4))))))))
theorem ok_is_block (Bz : Bl K mg cm A_NotABlock) {t_LAST_TIME : Tok} {t_LETTERS : Tok} {t_MOST_CHARS : Tok} {t_MOST_LABELS : Tok} {t_VALUE_BOUND : Tok} {t_WORD_CHARS : Tok} (C_LAST_TIME : True ∧ mg "LAST_TIME" = some (.int 10000 t_LAST_TIME)) (C_LETTERS : True ∧ mg "LETTERS" = some (.str "abcdefghijklmnopqrstuvwxyz" t_LETTERS)) (C_MOST_CHARS : True ∧ mg "MOST_CHARS" = some (.int 20 t_MOST_CHARS)) (C_MOST_LABELS : True ∧ mg "MOST_LABELS" = some (.int 6 t_MOST_LABELS)) (C_VALUE_BOUND : True ∧ mg "VALUE_BOUND" = some (.int 1000000000000000 t_VALUE_BOUND)) (C_WORD_CHARS : True ∧ mg "WORD_CHARS" = some (.str "abcdefghijklmnopqrstuvwxyz0123456789_" t_WORD_CHARS)) {f_is_plain : Addr} {fd_is_plain : FuncData} (T_is_plain : Fn K mg "is_plain" s_is_plain ["sample"] f_is_plain fd_is_plain) {f_are_plain_labels : Addr} {fd_are_plain_labels : FuncData} (T_are_plain_labels : Fn K mg "are_plain_labels" s_are_plain_labels ["labels"] f_are_plain_labels fd_are_plain_labels) {f_is_name : Addr} {fd_is_name : FuncData} (T_is_name : Fn K mg "is_name" s_is_name ["text"] f_is_name fd_is_name) {f_is_value : Addr} {fd_is_value : FuncData} (T_is_value : Fn K mg "is_value" s_is_value ["text"] f_is_value fd_is_value) {f_is_block : Addr} {fd_is_block : FuncData} (T_is_block : Fn K mg "is_block" s_is_block ["block"] f_is_block fd_is_block) : FnOk P w K mg base CX0 5 f_is_block fd_is_block ["block"] (spF w K cm 1 is_block_f) := by
  have G_is_plain : FnOk P w K mg base CX0 4 f_is_plain fd_is_plain ["sample"] (spF w K cm 1 is_plain_f) := ok_is_plain Bz C_LAST_TIME C_LETTERS C_MOST_CHARS C_MOST_LABELS C_VALUE_BOUND C_WORD_CHARS T_are_plain_labels T_is_name T_is_value T_is_plain
  refine mk_ok (k := 4) T_is_block.F sc_is_block fun cdv A outer s H E hr => ⟨_,
    (pss_cons (ps_asg (pv 0) (pg_sq (by rfl) (pgs_cons (pg_name (i := 1) sc_is_block.nd rfl (.inl rfl)) (pgs_cons (pg_name (i := 2) sc_is_block.nd rfl (.inl rfl)) (pgs_cons (pg_name (i := 3) sc_is_block.nd rfl (.inl rfl)) pgs_nil)))))
    (pss_cons (ps_if (PW.pt (pw_or (pt_cmpR o_lt (pv 2) pe_int (nomark _)) (pw_or1 (pt_not (pt_truth (pv 3) (fun _ => rfl)))))) (pss_one (ps_ret pe_bl)) pss_nil)
    (pss_cons (ps_for PassesOwn.never rfl (pi_enumA rfl Bz.enumerate_ (pa_cons (pv 3) pa_nil)) (pg_sq (by rfl) (pgs_cons (pg_name (i := 4) sc_is_block.nd rfl (.inl rfl)) (pgs_cons (pg_sq (by rfl) (pgs_cons (pg_name (i := 5) sc_is_block.nd rfl (.inl rfl)) (pgs_cons (pg_name (i := 6) sc_is_block.nd rfl (.inl rfl)) pgs_nil))) pgs_nil))) (pss_cons (ps_if (PW.pt (pw_or (pt_not (pt_truth (pv 6) (fun _ => rfl))) (pw_or1 (PW.pt (pw_and (pt_cmpR o_gt (pv 4) pe_int (nomark _)) (pw_and1 (pt_cmpR (op_geD (uk hr)) (pe_ix ix_seq (pe_ix ix_seq (pv 3) (pe_op op_sub (pv 4) pe_int) (fun _ _ => rfl)) pe_int (fun _ _ => rfl)) (pv 5) (nomark _)))))))) (pss_one (ps_ret pe_bl)) pss_nil)
    (pss_one (ps_for PassesOwn.never rfl (pi_seq (pv 6)) (pg_sq (by rfl) (pgs_cons (pg_name (i := 7) sc_is_block.nd rfl (.inl rfl)) (pgs_cons (pg_name (i := 8) sc_is_block.nd rfl (.inl rfl)) pgs_nil))) (pss_one (ps_if (PW.pt (pw_or (pt_not (pt_chain o_le o_lt (pv 1) (pv 7) (pe_op o_add (pv 1) (pv 2)))) (pw_or1 (pt_not (pt_truth (pe_call (G_is_plain) (hr.mono (by omega)) (by rfl) T_is_plain.m T_is_plain.F.kp T_is_plain.b .nil (passE (E := E)) (pa_cons (pe_tup (pa_cons (pv 5) (pa_cons (pv 7) (pa_cons (pv 8) pa_nil)))) pa_nil)) (fun _ => rfl)))))) (pss_one (ps_ret pe_bl)) pss_nil))))))
    (pss_one (ps_ret pe_bl))))), ?_⟩
  exact fun ex => (sem_seq (sem_asgG sem_var (sem_gTup (n := 3) (sem_gsC (sem_gName (i := 1)) (sem_gsC (sem_gName (i := 2)) (sem_gsC (sem_gName (i := 3)) sem_gsN)))))
    (sem_seq (sem_if (sem_or (sem_tTest (sem_bin r2_lt sem_peek sem_int)) (sem_not (sem_tru sem_peek))) (sem_ret sem_bl) sem_skip)
    (sem_seq (sem_for (sem_enum sem_var) (sem_gTup (n := 2) (sem_gsC (sem_gName (i := 4)) (sem_gsC (sem_gTup (n := 2) (sem_gsC (sem_gName (i := 5)) (sem_gsC (sem_gName (i := 6)) sem_gsN))) sem_gsN))) (sem_kill (is := [4, 5, 6, 7, 8]) (sem_seq (sem_if (sem_or (sem_not (sem_tru sem_peek)) (sem_and (sem_tTest (sem_bin r2_gt sem_peek sem_int)) (sem_tTest (sem_bin r2_geG (SemE.look (sem_bin r2_ix (SemE.look (sem_bin r2_ix sem_peek (SemE.look (sem_bin r2_sub sem_peek sem_int)))) sem_int)) sem_peek)))) (sem_ret sem_bl) sem_skip)
    (sem_for (sem_seqI sem_var) (sem_gTup (n := 2) (sem_gsC (sem_gName (i := 7)) (sem_gsC (sem_gName (i := 8)) sem_gsN))) (sem_kill (is := [7, 8]) (sem_if (sem_or (sem_not (sem_tTest (sem_chain r2_le r2_lt sem_peek sem_peek (SemE.look (sem_bin r2_add sem_peek sem_peek))))) (sem_not (sem_tru (SemE.look (sem_call (sem_conA (sem_tup (sem_conA sem_var (sem_conA sem_var (sem_conA sem_var sem_nilA)))) sem_nilA)))))) (sem_ret sem_bl) sem_skip))))))
    (sem_ret sem_bl))))
theorem ok_take_block (Bz : Bl K mg cm A_NotABlock) {t_LAST_TIME : Tok} {t_LETTERS : Tok} {t_MOST_CHARS : Tok} {t_MOST_LABELS : Tok} {t_VALUE_BOUND : Tok} {t_WORD_CHARS : Tok} (C_LAST_TIME : True ∧ mg "LAST_TIME" = some (.int 10000 t_LAST_TIME)) (C_LETTERS : True ∧ mg "LETTERS" = some (.str "abcdefghijklmnopqrstuvwxyz" t_LETTERS)) (C_MOST_CHARS : True ∧ mg "MOST_CHARS" = some (.int 20 t_MOST_CHARS)) (C_MOST_LABELS : True ∧ mg "MOST_LABELS" = some (.int 6 t_MOST_LABELS)) (C_VALUE_BOUND : True ∧ mg "VALUE_BOUND" = some (.int 1000000000000000 t_VALUE_BOUND)) (C_WORD_CHARS : True ∧ mg "WORD_CHARS" = some (.str "abcdefghijklmnopqrstuvwxyz0123456789_" t_WORD_CHARS)) {f_take_number : Addr} {fd_take_number : FuncData} (T_take_number : Fn K mg "take_number" s_take_number ["data", "at"] f_take_number fd_take_number) {f_take_all_series : Addr} {fd_take_all_series : FuncData} (T_take_all_series : Fn K mg "take_all_series" s_take_all_series ["data", "at", "start"] f_take_all_series fd_take_all_series) {f_take_series : Addr} {fd_take_series : FuncData} (T_take_series : Fn K mg "take_series" s_take_series ["data", "at", "start"] f_take_series fd_take_series) {f_take_labels : Addr} {fd_take_labels : FuncData} (T_take_labels : Fn K mg "take_labels" s_take_labels ["data", "at"] f_take_labels fd_take_labels) {f_take_text : Addr} {fd_take_text : FuncData} (T_take_text : Fn K mg "take_text" s_take_text ["data", "at"] f_take_text fd_take_text) {f_char_at : Addr} {fd_char_at : FuncData} (T_char_at : Fn K mg "char_at" s_char_at ["place"] f_char_at fd_char_at) {f_take_points : Addr} {fd_take_points : FuncData} (T_take_points : Fn K mg "take_points" s_take_points ["data", "at", "start", "many"] f_take_points fd_take_points) {f_take_integer : Addr} {fd_take_integer : FuncData} (T_take_integer : Fn K mg "take_integer" s_take_integer ["data", "at"] f_take_integer fd_take_integer) {f_is_block : Addr} {fd_is_block : FuncData} (T_is_block : Fn K mg "is_block" s_is_block ["block"] f_is_block fd_is_block) {f_is_plain : Addr} {fd_is_plain : FuncData} (T_is_plain : Fn K mg "is_plain" s_is_plain ["sample"] f_is_plain fd_is_plain) {f_are_plain_labels : Addr} {fd_are_plain_labels : FuncData} (T_are_plain_labels : Fn K mg "are_plain_labels" s_are_plain_labels ["labels"] f_are_plain_labels fd_are_plain_labels) {f_is_name : Addr} {fd_is_name : FuncData} (T_is_name : Fn K mg "is_name" s_is_name ["text"] f_is_name fd_is_name) {f_is_value : Addr} {fd_is_value : FuncData} (T_is_value : Fn K mg "is_value" s_is_value ["text"] f_is_value fd_is_value) {f_take_block : Addr} {fd_take_block : FuncData} (T_take_block : Fn K mg "take_block" s_take_block ["data"] f_take_block fd_take_block) : FnOk P w K mg base (L2.CX P w) 6 f_take_block fd_take_block ["data"] (spF w K cm 1 take_block_f) := by
  have G_take_number : FnOk P w K mg base CX0 1 f_take_number fd_take_number ["data", "at"] (spF w K cm 2 take_number_f) := ok_take_number Bz  T_take_number
  have G_take_all_series : FnOk P w K mg base CX0 5 f_take_all_series fd_take_all_series ["data", "at", "start"] (spF w K cm 3 take_all_series_f) := ok_take_all_series Bz C_WORD_CHARS T_take_number T_take_series T_take_labels T_take_text T_char_at T_take_points T_take_integer T_take_all_series
  have G_is_block : FnOk P w K mg base CX0 5 f_is_block fd_is_block ["block"] (spF w K cm 1 is_block_f) := ok_is_block Bz C_LAST_TIME C_LETTERS C_MOST_CHARS C_MOST_LABELS C_VALUE_BOUND C_WORD_CHARS T_is_plain T_are_plain_labels T_is_name T_is_value T_is_block
  refine mk_okX (k := 5) T_take_block.F sc_take_block fun cdv A outer s H E hr => ⟨_,
    (pss_cons (ps_set (i := 1) sc_take_block.nd rfl (.inl rfl) (pe_call (G_take_number) (hr.mono (by omega)) (by rfl) T_take_number.m T_take_number.F.kp T_take_number.b .nil (passE (E := E)) (pa_cons (pv 0) (pa_cons pe_int pa_nil))))
    (pss_cons (ps_if (pt_cmpR op_isN (pv 1) pe_non (nomark _)) (pss_one (ps_raise0 Bz.z0 (by rfl))) pss_nil)
    (pss_cons (ps_set (i := 2) sc_take_block.nd rfl (.inl rfl) (pe_call (G_take_number) (hr.mono (by omega)) (by rfl) T_take_number.m T_take_number.F.kp T_take_number.b .nil (passE (E := E)) (pa_cons (pv 0) (pa_cons (pe_ix ix_seq (pv 1) pe_int (fun _ _ => rfl)) pa_nil))))
    (pss_cons (ps_if (pt_cmpR op_isN (pv 2) pe_non (nomark _)) (pss_one (ps_raise0 Bz.z0 (by rfl))) pss_nil)
    (pss_cons (ps_set (i := 3) sc_take_block.nd rfl (.inl rfl) (pe_call (G_take_all_series) (hr.mono (by omega)) (by rfl) T_take_all_series.m T_take_all_series.F.kp T_take_all_series.b .nil (passE (E := E)) (pa_cons (pv 0) (pa_cons (pe_ix ix_seq (pv 2) pe_int (fun _ _ => rfl)) (pa_cons (pe_ix ix_seq (pv 1) pe_int (fun _ _ => rfl)) pa_nil)))))
    (pss_cons (ps_if (PW.pt (pw_or (pt_cmpR op_isN (pv 3) pe_non (nomark _)) (pw_or1 (pt_not (pt_truth (pe_call (G_is_block) (hr.mono (by omega)) (by rfl) T_is_block.m T_is_block.F.kp T_is_block.b .nil (passE (E := E)) (pa_cons (pe_tup (pa_cons (pe_ix ix_seq (pv 1) pe_int (fun _ _ => rfl)) (pa_cons (pe_ix ix_seq (pv 2) pe_int (fun _ _ => rfl)) (pa_cons (pv 3) pa_nil)))) pa_nil)) (fun _ => rfl)))))) (pss_one (ps_raise0 Bz.z0 (by rfl))) pss_nil)
    (pss_one (ps_ret (pe_tup (pa_cons (pe_ix ix_seq (pv 1) pe_int (fun _ _ => rfl)) (pa_cons (pe_ix ix_seq (pv 2) pe_int (fun _ _ => rfl)) (pa_cons (pv 3) pa_nil)))))))))))), ?_⟩
  exact fun ex => (sem_seq (sem_set (sem_call (sem_conA sem_var (sem_conA sem_int sem_nilA))))
    (sem_seq (sem_if (sem_tTest (sem_bin r2_isn sem_peek sem_non)) (sem_raise' Bz.m0) sem_skip)
    (sem_seq (sem_set (sem_call (sem_conA sem_var (sem_conA (sem_bin r2_ix sem_peek sem_int) sem_nilA))))
    (sem_seq (sem_if (sem_tTest (sem_bin r2_isn sem_peek sem_non)) (sem_raise' Bz.m0) sem_skip)
    (sem_seq (sem_set (sem_call (sem_conA sem_var (sem_conA (sem_bin r2_ix sem_peek sem_int) (sem_conA (sem_bin r2_ix sem_peek sem_int) sem_nilA)))))
    (sem_seq (sem_frz (is := [3]) (sem_if (sem_or (sem_tTest (sem_bin r2_isn sem_peek sem_non)) (sem_not (sem_tru (SemE.look (sem_call (sem_conA (sem_tup (sem_conA (sem_bin r2_ix sem_peek sem_int) (sem_conA (sem_bin r2_ix sem_peek sem_int) (sem_conA sem_var sem_nilA)))) sem_nilA)))))) (sem_raise' Bz.m0) sem_skip))
    (sem_frz (is := [3]) (sem_ret (sem_tup (sem_conA (sem_bin r2_ix sem_peek sem_int) (sem_conA (sem_bin r2_ix sem_peek sem_int) (sem_conA sem_var sem_nilA))))))))))))
theorem ok_block_of (Bz : Bl K mg cm A_NotABlock) {f_series_of : Addr} {fd_series_of : FuncData} (T_series_of : Fn K mg "series_of" s_series_of ["view"] f_series_of fd_series_of) {f_block_of : Addr} {fd_block_of : FuncData} (T_block_of : Fn K mg "block_of" s_block_of ["start", "width", "view"] f_block_of fd_block_of) : FnOk P w K mg base CX0 2 f_block_of fd_block_of ["start", "width", "view"] (spF w K cm 3 block_of_f) := by
  have G_series_of : FnOk P w K mg base CX0 1 f_series_of fd_series_of ["view"] (spF w K cm 1 series_of_f) := ok_series_of Bz  T_series_of
  refine mk_ok (k := 1) T_block_of.F sc_block_of fun cdv A outer s H E hr => ⟨_,
    (pss_cons (ps_setLc (i := 3) (own := [("sample", 4)]) (g := (gName 4)) (tt := (tTest (tChain rLe rLt (tVar 0) (tOp (rIx K) (tVar 4) (tC (.int 1))) (tOp (rAddA K) (tVar 0) (tVar 1))))) (te := (tVar 4)) rfl sc_block_of.nd rfl rfl (sw_true rfl rfl rfl (by decide +kernel)) (pi_seq (pv 2)) (blkOk_by (N := ["start", "width", "view", "inside", "sample"]) (sc := defScope s_block_of) (by decide +kernel)) (fun _ _ _ _ _ => (pg_name (i := 4) sc_block_of.nd rfl (.inl rfl))) (fun _ _ _ _ _ => (pts_one (pt_chain o_le o_lt (pv 0) (pe_ix ix_seq (pv 4) pe_int (fun _ _ => rfl)) (pe_op o_add (pv 0) (pv 1))))) (fun _ _ _ _ _ => (pv 4)))
    (pss_cons (ps_if (pt_not (pt_truth (pv 3) (fun _ => rfl))) (pss_one (ps_ret pe_non)) pss_nil)
    (pss_one (ps_ret (pe_tup (pa_cons (pv 0) (pa_cons (pv 1) (pa_cons (pe_call (G_series_of) (hr.mono (by omega)) (by rfl) T_series_of.m T_series_of.F.kp T_series_of.b .nil (passE (E := E)) (pa_cons (pv 3) pa_nil)) pa_nil)))))))), ?_⟩
  exact fun ex => (sem_seq (sem_set (sem_lc (vs := [4]) (sem_seqI sem_var) (sem_gName (i := 4)) (sem_tTest (sem_chain r2_le r2_lt sem_peek (SemE.look (sem_bin r2_ix sem_peek sem_int)) (SemE.look (sem_bin r2_add sem_peek sem_peek)))) sem_var (by decide)))
    (sem_seq (sem_if (sem_not (sem_tru sem_peek)) (sem_ret sem_non) sem_skip)
    (sem_frz (is := [3]) (sem_ret (sem_tup (sem_conA sem_var (sem_conA sem_var (sem_conA (sem_call (sem_conA sem_var sem_nilA)) sem_nilA))))))))
theorem ok_samples_of (Bz : Bl K mg cm A_NotABlock) {f_spread : Addr} {fd_spread : FuncData} (T_spread : Fn K mg "spread" s_spread ["series"] f_spread fd_spread) {f_samples_of : Addr} {fd_samples_of : FuncData} (T_samples_of : Fn K mg "samples_of" s_samples_of ["block"] f_samples_of fd_samples_of) : FnOk P w K mg base CX0 2 f_samples_of fd_samples_of ["block"] (spF w K cm 1 samples_of_f) := by
  have G_spread : FnOk P w K mg base CX0 1 f_spread fd_spread ["series"] (spF w K cm 1 spread_f) := ok_spread Bz  T_spread
  refine mk_ok (k := 1) T_samples_of.F sc_samples_of fun cdv A outer s H E hr => ⟨_,
    (pss_one (ps_ret (pe_call (G_spread) (hr.mono (by omega)) (by rfl) T_spread.m T_spread.F.kp T_spread.b .nil (passE (E := E)) (pa_cons (pe_ix ix_seq (pv 0) pe_int (fun _ _ => rfl)) pa_nil)))), ?_⟩
  exact fun ex => (sem_ret (sem_call (sem_conA (sem_bin r2_ix sem_peek sem_int) sem_nilA)))
theorem ok_law_cell (Bz : Bl K mg cm A_NotABlock)  {f_law_cell : Addr} {fd_law_cell : FuncData} (T_law_cell : Fn K mg "_law_cell" s_law_cell ["_law_script", "_law_k"] f_law_cell fd_law_cell) : FnOk P w K mg base CX0 1 f_law_cell fd_law_cell ["_law_script", "_law_k"] (spF w K cm 2 law_cell_f) := by
  refine mk_ok (k := 0) T_law_cell.F sc_law_cell fun cdv A outer s H E hr => ⟨_,
    (pss_cons (ps_if (pt_cmpR o_lt (pv 1) (pe_callB cb_len (by rfl) Bz.len_ (by decide +kernel) (pa_cons (pv 0) pa_nil)) (nomark _)) (pss_one (ps_ret (pe_callTy cb_int (by rfl) Bz.int_ (by decide +kernel) (pa_cons (pe_ix ix_seq (pv 0) (pv 1) (fun _ _ => rfl)) pa_nil)))) pss_nil)
    (pss_one (ps_ret pe_int))), ?_⟩
  exact fun ex => (sem_seq (sem_if (sem_tTest (sem_bin r2_lt sem_peek (SemE.look (sem_callB c1_len (sem_conB sem_peek sem_nilB))))) (sem_ret (sem_callB c1_int (sem_conB (SemE.look (sem_bin r2_ix sem_peek sem_peek)) sem_nilB))) sem_skip)
    (sem_ret sem_int))
theorem ok_law_draws (Bz : Bl K mg cm A_NotABlock)  {f_law_draws : Addr} {fd_law_draws : FuncData} (T_law_draws : Fn K mg "_law_draws" s_law_draws ["_law_cell_here", "_law_many"] f_law_draws fd_law_draws) : FnOk P w K mg base CX0 1 f_law_draws fd_law_draws ["_law_cell_here", "_law_many"] (spF w K cm 2 law_draws_f) := by
  refine mk_ok (k := 0) T_law_draws.F sc_law_draws fun cdv A outer s H E hr => ⟨_,
    (pss_cons (ps_set (i := 2) sc_law_draws.nd rfl (.inl rfl) (pe_lst pa_nil))
    (pss_cons (ps_set (i := 3) sc_law_draws.nd rfl (.inl rfl) (pe_callTy cb_int (by rfl) Bz.int_ (by decide +kernel) (pa_cons (pv 0) pa_nil)))
    (pss_cons (ps_if (pt_cmpR o_ge (pv 3) (pe_op op_pow pe_int pe_int) (nomark _)) (pss_one (ps_for PassesOwn.never rfl (pi_range1 rfl Bz.range_ (pa_cons (pv 1) pa_nil)) (pg_name (i := 4) sc_law_draws.nd rfl (.inl rfl)) (pss_one (ps_if (pt_cmpR o_gt (pv 3) pe_int (nomark _)) (pss_cons (ps_expr (pe_bm PySem.F.plainAttrs_list PySem.F.slot_list_append PySem.F.type_list_append mt_append (pv 2) (pa_cons (pe_op op_mod (pe_callTy cb_int (by rfl) Bz.int_ (by decide +kernel) (pa_cons (pv 3) pa_nil)) pe_int) pa_nil)))
    (pss_one (ps_set (i := 3) sc_law_draws.nd rfl (.inl rfl) (pe_op op_fdiv (pv 3) pe_int)))) pss_nil)))) pss_nil)
    (pss_cons (ps_set (i := 5) sc_law_draws.nd rfl (.inl rfl) (pe_op op_mod (pe_callTy cb_int (by rfl) Bz.int_ (by decide +kernel) (pa_cons (pe_op o_add (pe_op o_mul (pe_callTy cb_int (by rfl) Bz.int_ (by decide +kernel) (pa_cons (pv 0) pa_nil)) pe_int) pe_int) pa_nil)) pe_int))
    (pss_cons (ps_for PassesOwn.never rfl (pi_range1 rfl Bz.range_ (pa_cons (pv 1) pa_nil)) (pg_name (i := 4) sc_law_draws.nd rfl (.inl rfl)) (pss_cons (ps_set (i := 5) sc_law_draws.nd rfl (.inl rfl) (pe_op op_mod (pe_callTy cb_int (by rfl) Bz.int_ (by decide +kernel) (pa_cons (pe_op o_add (pe_op o_add (pe_op o_mul (pv 5) pe_int) (pe_op o_mul (pv 4) pe_int)) pe_int) pa_nil)) pe_int))
    (pss_one (ps_if (pt_cmpR o_lt (pe_callB cb_len (by rfl) Bz.len_ (by decide +kernel) (pa_cons (pv 2) pa_nil)) (pv 1) (nomark _)) (pss_one (ps_expr (pe_bm PySem.F.plainAttrs_list PySem.F.slot_list_append PySem.F.type_list_append mt_append (pv 2) (pa_cons (pe_op op_mod (pe_callTy cb_int (by rfl) Bz.int_ (by decide +kernel) (pa_cons (pe_op op_mod (pe_callTy cb_int (by rfl) Bz.int_ (by decide +kernel) (pa_cons (pe_op o_add (pe_op o_mul (pv 5) pe_int) pe_int) pa_nil)) pe_int) pa_nil)) pe_int) pa_nil)))) pss_nil))))
    (pss_one (ps_ret (pv 2)))))))), ?_⟩
  exact fun ex => (sem_seq (sem_set (sem_lst sem_nilA))
    (sem_seq (sem_set (sem_callB c1_int (sem_conB sem_peek sem_nilB)))
    (sem_seq (sem_if (sem_tTest (sem_bin r2_ge sem_peek (SemE.look (sem_bin r2_pow sem_int sem_int)))) (sem_for (sem_rng1 (sem_conB sem_peek sem_nilB)) (sem_gName (i := 4)) (sem_kill (is := [4]) (sem_if (sem_tTest (sem_bin r2_gt sem_peek sem_int)) (sem_seq (sem_app (i := 2) (sem_bin r2_mod (SemE.look (sem_callB c1_int (sem_conB sem_peek sem_nilB))) sem_int))
    (sem_set (sem_bin r2_fdiv sem_peek sem_int))) sem_skip))) sem_skip)
    (sem_seq (sem_set (sem_bin r2_mod (SemE.look (sem_callB c1_int (sem_conB (SemE.look (sem_bin r2_add (SemE.look (sem_bin r2_mulA (SemE.look (sem_callB c1_int (sem_conB sem_peek sem_nilB))) sem_int)) sem_int)) sem_nilB))) sem_int))
    (sem_seq (sem_for (sem_rng1 (sem_conB sem_peek sem_nilB)) (sem_gName (i := 4)) (sem_kill (is := [4]) (sem_seq (sem_set (sem_bin r2_mod (SemE.look (sem_callB c1_int (sem_conB (SemE.look (sem_bin r2_add (SemE.look (sem_bin r2_add (SemE.look (sem_bin r2_mulA sem_peek sem_int)) (SemE.look (sem_bin r2_mulA sem_peek sem_int)))) sem_int)) sem_nilB))) sem_int))
    (sem_if (sem_tTest (sem_bin r2_lt (SemE.look (sem_callB c1_len (sem_conB sem_peek sem_nilB))) sem_peek)) (sem_app (i := 2) (sem_bin r2_mod (SemE.look (sem_callB c1_int (sem_conB (SemE.look (sem_bin r2_mod (SemE.look (sem_callB c1_int (sem_conB (SemE.look (sem_bin r2_add (SemE.look (sem_bin r2_mulA sem_peek sem_int)) sem_int)) sem_nilB))) sem_int)) sem_nilB))) sem_int)) sem_skip))))
    (sem_retV (i := 2)))))))
theorem ok_law_name (Bz : Bl K mg cm A_NotABlock)  {f_law_name : Addr} {fd_law_name : FuncData} (T_law_name : Fn K mg "_law_name" s_law_name ["_law_first", "_law_second"] f_law_name fd_law_name) : FnOk P w K mg base CX0 1 f_law_name fd_law_name ["_law_first", "_law_second"] (spF w K cm 2 law_name_f) := by
  refine mk_ok (k := 0) T_law_name.F sc_law_name fun cdv A outer s H E hr => ⟨_,
    (pss_cons (ps_set (i := 2) sc_law_name.nd rfl (.inl rfl) pe_str)
    (pss_cons (ps_set (i := 3) sc_law_name.nd rfl (.inl rfl) (pe_ix ix_seq (pv 2) (pe_op op_mod (pe_callTy cb_int (by rfl) Bz.int_ (by decide +kernel) (pa_cons (pv 0) pa_nil)) pe_int) (fun _ _ => rfl)))
    (pss_cons (ps_if (pt_cmpR (o_eq hr.units) (pe_op op_mod (pe_callTy cb_int (by rfl) Bz.int_ (by decide +kernel) (pa_cons (pv 1) pa_nil)) pe_int) pe_int (nomark _)) (pss_one (ps_ret (pv 3))) pss_nil)
    (pss_cons (ps_set (i := 3) sc_law_name.nd rfl (.inl rfl) (pe_op o_add (pv 3) (pe_ix ix_seq (pv 2) (pe_op op_mod (pe_op op_fdiv (pe_callTy cb_int (by rfl) Bz.int_ (by decide +kernel) (pa_cons (pv 1) pa_nil)) pe_int) pe_int) (fun _ _ => rfl))))
    (pss_cons (ps_if (pt_cmpR (o_eq hr.units) (pe_op op_mod (pe_callTy cb_int (by rfl) Bz.int_ (by decide +kernel) (pa_cons (pv 1) pa_nil)) pe_int) pe_int (nomark _)) (pss_one (ps_ret (pv 3))) pss_nil)
    (pss_cons (ps_if (pt_cmpR (o_eq hr.units) (pe_op op_mod (pe_callTy cb_int (by rfl) Bz.int_ (by decide +kernel) (pa_cons (pv 1) pa_nil)) pe_int) pe_int (nomark _)) (pss_one (ps_ret (pe_op o_add (pe_op o_add (pv 3) (pe_op o_mul pe_str pe_int)) (pe_ix ix_seq (pv 2) (pe_op op_mod (pe_op op_fdiv (pe_callTy cb_int (by rfl) Bz.int_ (by decide +kernel) (pa_cons (pv 0) pa_nil)) pe_int) pe_int) (fun _ _ => rfl))))) pss_nil)
    (pss_one (ps_ret (pe_op o_add (pv 3) (pe_ix ix_seq (pv 2) (pe_op op_mod (pe_op op_fdiv (pe_callTy cb_int (by rfl) Bz.int_ (by decide +kernel) (pa_cons (pv 0) pa_nil)) pe_int) pe_int) (fun _ _ => rfl))))))))))), ?_⟩
  exact fun ex => (sem_seq (sem_set sem_str)
    (sem_seq (sem_set (sem_bin r2_ix sem_peek (SemE.look (sem_bin r2_mod (SemE.look (sem_callB c1_int (sem_conB sem_peek sem_nilB))) sem_int))))
    (sem_seq (sem_if (sem_tTest (sem_bin r2_eq (SemE.look (sem_bin r2_mod (SemE.look (sem_callB c1_int (sem_conB sem_peek sem_nilB))) sem_int)) sem_int)) (sem_retV (i := 3)) sem_skip)
    (sem_seq (sem_set (sem_bin r2_add sem_peek (SemE.look (sem_bin r2_ix sem_peek (SemE.look (sem_bin r2_mod (SemE.look (sem_bin r2_fdiv (SemE.look (sem_callB c1_int (sem_conB sem_peek sem_nilB))) sem_int)) sem_int))))))
    (sem_seq (sem_if (sem_tTest (sem_bin r2_eq (SemE.look (sem_bin r2_mod (SemE.look (sem_callB c1_int (sem_conB sem_peek sem_nilB))) sem_int)) sem_int)) (sem_retV (i := 3)) sem_skip)
    (sem_seq (sem_if (sem_tTest (sem_bin r2_eq (SemE.look (sem_bin r2_mod (SemE.look (sem_callB c1_int (sem_conB sem_peek sem_nilB))) sem_int)) sem_int)) (sem_ret (sem_bin r2_add (SemE.look (sem_bin r2_add sem_peek (SemE.look (sem_bin r2_mulA sem_str sem_int)))) (SemE.look (sem_bin r2_ix sem_peek (SemE.look (sem_bin r2_mod (SemE.look (sem_bin r2_fdiv (SemE.look (sem_callB c1_int (sem_conB sem_peek sem_nilB))) sem_int)) sem_int)))))) sem_skip)
    (sem_ret (sem_bin r2_add sem_peek (SemE.look (sem_bin r2_ix sem_peek (SemE.look (sem_bin r2_mod (SemE.look (sem_bin r2_fdiv (SemE.look (sem_callB c1_int (sem_conB sem_peek sem_nilB))) sem_int)) sem_int))))))))))))
theorem ok_law_worth (Bz : Bl K mg cm A_NotABlock)  {f_law_worth : Addr} {fd_law_worth : FuncData} (T_law_worth : Fn K mg "_law_worth" s_law_worth ["_law_first", "_law_second"] f_law_worth fd_law_worth) : FnOk P w K mg base CX0 1 f_law_worth fd_law_worth ["_law_first", "_law_second"] (spF w K cm 2 law_worth_f) := by
  refine mk_ok (k := 0) T_law_worth.F sc_law_worth fun cdv A outer s H E hr => ⟨_,
    (pss_cons (ps_set (i := 2) sc_law_worth.nd rfl (.inl rfl) pe_str)
    (pss_cons (ps_set (i := 3) sc_law_worth.nd rfl (.inl rfl) (pe_ix ix_seq (pv 2) (pe_op op_mod (pe_callTy cb_int (by rfl) Bz.int_ (by decide +kernel) (pa_cons (pv 0) pa_nil)) pe_int) (fun _ _ => rfl)))
    (pss_cons (ps_if (pt_cmpR (o_eq hr.units) (pe_op op_mod (pe_callTy cb_int (by rfl) Bz.int_ (by decide +kernel) (pa_cons (pv 1) pa_nil)) pe_int) pe_int (nomark _)) (pss_one (ps_ret (pv 3))) pss_nil)
    (pss_cons (ps_if (pt_cmpR (o_eq hr.units) (pe_op op_mod (pe_callTy cb_int (by rfl) Bz.int_ (by decide +kernel) (pa_cons (pv 1) pa_nil)) pe_int) pe_int (nomark _)) (pss_one (ps_ret (pe_op o_add (pe_op o_mul (pv 3) pe_int) (pe_ix ix_seq (pv 2) (pe_op op_mod (pe_op op_fdiv (pe_callTy cb_int (by rfl) Bz.int_ (by decide +kernel) (pa_cons (pv 1) pa_nil)) pe_int) pe_int) (fun _ _ => rfl))))) pss_nil)
    (pss_one (ps_ret (pe_op o_add (pv 3) (pe_ix ix_seq (pv 2) (pe_op op_mod (pe_op op_fdiv (pe_callTy cb_int (by rfl) Bz.int_ (by decide +kernel) (pa_cons (pv 1) pa_nil)) pe_int) pe_int) (fun _ _ => rfl))))))))), ?_⟩
  exact fun ex => (sem_seq (sem_set sem_str)
    (sem_seq (sem_set (sem_bin r2_ix sem_peek (SemE.look (sem_bin r2_mod (SemE.look (sem_callB c1_int (sem_conB sem_peek sem_nilB))) sem_int))))
    (sem_seq (sem_if (sem_tTest (sem_bin r2_eq (SemE.look (sem_bin r2_mod (SemE.look (sem_callB c1_int (sem_conB sem_peek sem_nilB))) sem_int)) sem_int)) (sem_retV (i := 3)) sem_skip)
    (sem_seq (sem_if (sem_tTest (sem_bin r2_eq (SemE.look (sem_bin r2_mod (SemE.look (sem_callB c1_int (sem_conB sem_peek sem_nilB))) sem_int)) sem_int)) (sem_ret (sem_bin r2_add (SemE.look (sem_bin r2_mulA sem_peek sem_int)) (SemE.look (sem_bin r2_ix sem_peek (SemE.look (sem_bin r2_mod (SemE.look (sem_bin r2_fdiv (SemE.look (sem_callB c1_int (sem_conB sem_peek sem_nilB))) sem_int)) sem_int)))))) sem_skip)
    (sem_ret (sem_bin r2_add sem_peek (SemE.look (sem_bin r2_ix sem_peek (SemE.look (sem_bin r2_mod (SemE.look (sem_bin r2_fdiv (SemE.look (sem_callB c1_int (sem_conB sem_peek sem_nilB))) sem_int)) sem_int))))))))))
theorem ok_law_names (Bz : Bl K mg cm A_NotABlock) {f_law_draws : Addr} {fd_law_draws : FuncData} (T_law_draws : Fn K mg "_law_draws" s_law_draws ["_law_cell_here", "_law_many"] f_law_draws fd_law_draws) {f_law_name : Addr} {fd_law_name : FuncData} (T_law_name : Fn K mg "_law_name" s_law_name ["_law_first", "_law_second"] f_law_name fd_law_name) {f_law_names : Addr} {fd_law_names : FuncData} (T_law_names : Fn K mg "_law_names" s_law_names ["_law_cell_here", "_law_many"] f_law_names fd_law_names) : FnOk P w K mg base CX0 2 f_law_names fd_law_names ["_law_cell_here", "_law_many"] (spF w K cm 2 law_names_f) := by
  have G_law_draws : FnOk P w K mg base CX0 1 f_law_draws fd_law_draws ["_law_cell_here", "_law_many"] (spF w K cm 2 law_draws_f) := ok_law_draws Bz  T_law_draws
  have G_law_name : FnOk P w K mg base CX0 1 f_law_name fd_law_name ["_law_first", "_law_second"] (spF w K cm 2 law_name_f) := ok_law_name Bz  T_law_name
  refine mk_ok (k := 1) T_law_names.F sc_law_names fun cdv A outer s H E hr => ⟨_,
    (pss_cons (ps_set (i := 2) sc_law_names.nd rfl (.inr rfl) (pe_call (G_law_draws) (hr.mono (by omega)) (by rfl) T_law_draws.m T_law_draws.F.kp T_law_draws.b .nil (passE (E := E)) (pa_cons (pv 0) (pa_cons (pe_op o_mul pe_int (pv 1)) pa_nil))))
    (pss_one (ps_ret (pe_lc (own := [("_law_k", 3)]) (g := (gName 3)) (tt := tYes) (te := (tCall (spF w K cm 2 law_name_f) [] E (tCons (tOp (rIx K) (tVar 2) (tOp rMulA (tC (.int 2)) (tVar 3))) (tCons (tOp (rIx K) (tVar 2) (tOp (rAddA K) (tOp rMulA (tC (.int 2)) (tVar 3)) (tC (.int 1)))) tNil)))) rfl sc_law_names.nd (pi_range1 rfl Bz.range_ (pa_cons (pv 1) pa_nil)) (blkOk_by (N := ["_law_cell_here", "_law_many", "_law_draws_here", "_law_k"]) (sc := defScope s_law_names) (by decide +kernel)) (fun _ _ _ _ _ => (pg_name (i := 3) sc_law_names.nd rfl (.inl rfl))) (fun _ _ _ _ _ => pts_nil) (fun _ _ _ _ _ => (pe_call (G_law_name) (hr.mono (by omega)) (by rfl) T_law_name.m T_law_name.F.kp T_law_name.b .nil (passE (E := E)) (pa_cons (pe_ix ix_seq (pv 2) (pe_op o_mul pe_int (pv 3)) (fun _ _ => rfl)) (pa_cons (pe_ix ix_seq (pv 2) (pe_op o_add (pe_op o_mul pe_int (pv 3)) pe_int) (fun _ _ => rfl)) pa_nil)))))))), ?_⟩
  exact fun ex => (sem_seq (sem_set (sem_call (sem_conA sem_var (sem_conA (sem_bin r2_mulA sem_int sem_peek) sem_nilA))))
    (sem_ret (sem_lc (vs := [3]) (sem_rng1 (sem_conB sem_peek sem_nilB)) (sem_gName (i := 3)) sem_yes (sem_call (sem_conA (sem_bin r2_ix sem_peek (SemE.look (sem_bin r2_mulA sem_int sem_peek))) (sem_conA (sem_bin r2_ix sem_peek (SemE.look (sem_bin r2_add (SemE.look (sem_bin r2_mulA sem_int sem_peek)) sem_int))) sem_nilA))) (by decide))))
theorem ok_law_worths (Bz : Bl K mg cm A_NotABlock) {f_law_draws : Addr} {fd_law_draws : FuncData} (T_law_draws : Fn K mg "_law_draws" s_law_draws ["_law_cell_here", "_law_many"] f_law_draws fd_law_draws) {f_law_worth : Addr} {fd_law_worth : FuncData} (T_law_worth : Fn K mg "_law_worth" s_law_worth ["_law_first", "_law_second"] f_law_worth fd_law_worth) {f_law_worths : Addr} {fd_law_worths : FuncData} (T_law_worths : Fn K mg "_law_worths" s_law_worths ["_law_cell_here", "_law_many"] f_law_worths fd_law_worths) : FnOk P w K mg base CX0 2 f_law_worths fd_law_worths ["_law_cell_here", "_law_many"] (spF w K cm 2 law_worths_f) := by
  have G_law_draws : FnOk P w K mg base CX0 1 f_law_draws fd_law_draws ["_law_cell_here", "_law_many"] (spF w K cm 2 law_draws_f) := ok_law_draws Bz  T_law_draws
  have G_law_worth : FnOk P w K mg base CX0 1 f_law_worth fd_law_worth ["_law_first", "_law_second"] (spF w K cm 2 law_worth_f) := ok_law_worth Bz  T_law_worth
  refine mk_ok (k := 1) T_law_worths.F sc_law_worths fun cdv A outer s H E hr => ⟨_,
    (pss_cons (ps_set (i := 2) sc_law_worths.nd rfl (.inr rfl) (pe_call (G_law_draws) (hr.mono (by omega)) (by rfl) T_law_draws.m T_law_draws.F.kp T_law_draws.b .nil (passE (E := E)) (pa_cons (pv 0) (pa_cons (pe_op o_mul pe_int (pv 1)) pa_nil))))
    (pss_one (ps_ret (pe_lc (own := [("_law_k", 3)]) (g := (gName 3)) (tt := tYes) (te := (tCall (spF w K cm 2 law_worth_f) [] E (tCons (tOp (rIx K) (tVar 2) (tOp rMulA (tC (.int 2)) (tVar 3))) (tCons (tOp (rIx K) (tVar 2) (tOp (rAddA K) (tOp rMulA (tC (.int 2)) (tVar 3)) (tC (.int 1)))) tNil)))) rfl sc_law_worths.nd (pi_range1 rfl Bz.range_ (pa_cons (pv 1) pa_nil)) (blkOk_by (N := ["_law_cell_here", "_law_many", "_law_draws_here", "_law_k"]) (sc := defScope s_law_worths) (by decide +kernel)) (fun _ _ _ _ _ => (pg_name (i := 3) sc_law_worths.nd rfl (.inl rfl))) (fun _ _ _ _ _ => pts_nil) (fun _ _ _ _ _ => (pe_call (G_law_worth) (hr.mono (by omega)) (by rfl) T_law_worth.m T_law_worth.F.kp T_law_worth.b .nil (passE (E := E)) (pa_cons (pe_ix ix_seq (pv 2) (pe_op o_mul pe_int (pv 3)) (fun _ _ => rfl)) (pa_cons (pe_ix ix_seq (pv 2) (pe_op o_add (pe_op o_mul pe_int (pv 3)) pe_int) (fun _ _ => rfl)) pa_nil)))))))), ?_⟩
  exact fun ex => (sem_seq (sem_set (sem_call (sem_conA sem_var (sem_conA (sem_bin r2_mulA sem_int sem_peek) sem_nilA))))
    (sem_ret (sem_lc (vs := [3]) (sem_rng1 (sem_conB sem_peek sem_nilB)) (sem_gName (i := 3)) sem_yes (sem_call (sem_conA (sem_bin r2_ix sem_peek (SemE.look (sem_bin r2_mulA sem_int sem_peek))) (sem_conA (sem_bin r2_ix sem_peek (SemE.look (sem_bin r2_add (SemE.look (sem_bin r2_mulA sem_int sem_peek)) sem_int))) sem_nilA))) (by decide))))
theorem ok_law_labels (Bz : Bl K mg cm A_NotABlock)  {f_law_labels : Addr} {fd_law_labels : FuncData} (T_law_labels : Fn K mg "_law_labels" s_law_labels ["_law_draws_here", "_law_names_here", "_law_worths_here"] f_law_labels fd_law_labels) : FnOk P w K mg base CX0 1 f_law_labels fd_law_labels ["_law_draws_here", "_law_names_here", "_law_worths_here"] (spF w K cm 3 law_labels_f) := by
  refine mk_ok (k := 0) T_law_labels.F sc_law_labels fun cdv A outer s H E hr => ⟨_,
    (pss_cons (ps_set (i := 3) sc_law_labels.nd rfl (.inl rfl) (pe_lst pa_nil))
    (pss_cons (ps_set (i := 4) sc_law_labels.nd rfl (.inl rfl) (pe_lst pa_nil))
    (pss_cons (ps_for PassesOwn.never rfl (pi_range3 rfl Bz.range_ (pa_cons pe_int (pa_cons (pe_op op_sub (pe_callB cb_len (by rfl) Bz.len_ (by decide +kernel) (pa_cons (pv 0) pa_nil)) pe_int) (pa_cons pe_int pa_nil)))) (pg_name (i := 5) sc_law_labels.nd rfl (.inl rfl)) (pss_cons (ps_set (i := 6) sc_law_labels.nd rfl (.inl rfl) (pe_ix ix_seq (pv 1) (pe_op op_mod (pe_callTy cb_int (by rfl) Bz.int_ (by decide +kernel) (pa_cons (pe_ix ix_seq (pv 0) (pv 5) (fun _ _ => rfl)) pa_nil)) (pe_callB cb_len (by rfl) Bz.len_ (by decide +kernel) (pa_cons (pv 1) pa_nil))) (fun _ _ => rfl)))
    (pss_one (ps_if (pt_cmpR (o_notin (u65 hr)) (pv 6) (pv 4) (by rfl)) (pss_cons (ps_expr (pe_bm PySem.F.plainAttrs_list PySem.F.slot_list_append PySem.F.type_list_append mt_append (pv 4) (pa_cons (pv 6) pa_nil)))
    (pss_one (ps_expr (pe_bm PySem.F.plainAttrs_list PySem.F.slot_list_append PySem.F.type_list_append mt_append (pv 3) (pa_cons (pe_tup (pa_cons (pv 6) (pa_cons (pe_ix ix_seq (pv 2) (pe_op op_mod (pe_callTy cb_int (by rfl) Bz.int_ (by decide +kernel) (pa_cons (pe_ix ix_seq (pv 0) (pe_op o_add (pv 5) pe_int) (fun _ _ => rfl)) pa_nil)) (pe_callB cb_len (by rfl) Bz.len_ (by decide +kernel) (pa_cons (pv 2) pa_nil))) (fun _ _ => rfl)) pa_nil))) pa_nil))))) pss_nil))))
    (pss_one (ps_ret (pe_callTy cb_tup (by rfl) Bz.tuple_ (by decide +kernel) (pa_cons (pe_callB (cb_sorted (u65 hr)) (by rfl) Bz.sorted_ (by decide +kernel) (pa_cons (pv 3) pa_nil)) pa_nil))))))), ?_⟩
  exact fun ex => (sem_seq (sem_set (sem_lst sem_nilA))
    (sem_seq (sem_set (sem_lst sem_nilA))
    (sem_seq (sem_for (sem_rng3 (sem_conB sem_int (sem_conB (SemE.look (sem_bin r2_sub (SemE.look (sem_callB c1_len (sem_conB sem_peek sem_nilB))) sem_int)) (sem_conB sem_int sem_nilB)))) (sem_gName (i := 5)) (sem_kill (is := [5, 6]) (sem_seq (sem_set (sem_bin r2_ix sem_peek (SemE.look (sem_bin r2_mod (SemE.look (sem_callB c1_int (sem_conB (SemE.look (sem_bin r2_ix sem_peek sem_peek)) sem_nilB))) (SemE.look (sem_callB c1_len (sem_conB sem_peek sem_nilB)))))))
    (sem_if (sem_tTest (sem_bin r2_notin sem_peek sem_peek)) (sem_seq (sem_app (i := 4) sem_var)
    (sem_app (i := 3) (sem_tup (sem_conA sem_var (sem_conA (sem_bin r2_ix sem_peek (SemE.look (sem_bin r2_mod (SemE.look (sem_callB c1_int (sem_conB (SemE.look (sem_bin r2_ix sem_peek (SemE.look (sem_bin r2_add sem_peek sem_int)))) sem_nilB))) (SemE.look (sem_callB c1_len (sem_conB sem_peek sem_nilB)))))) sem_nilA))))) sem_skip))))
    (sem_ret (sem_callB c1_tup (sem_conB (SemE.look (sem_callB c1_sorted (sem_conB sem_peek sem_nilB))) sem_nilB))))))
theorem ok_law_number (Bz : Bl K mg cm A_NotABlock)  {f_law_number : Addr} {fd_law_number : FuncData} (T_law_number : Fn K mg "_law_number" s_law_number ["_law_first", "_law_second"] f_law_number fd_law_number) : FnOk P w K mg base CX0 1 f_law_number fd_law_number ["_law_first", "_law_second"] (spF w K cm 2 law_number_f) := by
  refine mk_ok (k := 0) T_law_number.F sc_law_number fun cdv A outer s H E hr => ⟨_,
    (pss_cons (ps_set (i := 2) sc_law_number.nd rfl (.inl rfl) (pe_op op_mod (pe_callTy cb_int (by rfl) Bz.int_ (by decide +kernel) (pa_cons (pv 0) pa_nil)) pe_int))
    (pss_cons (ps_if (pt_cmpR (o_eq hr.units) (pe_op op_mod (pe_callTy cb_int (by rfl) Bz.int_ (by decide +kernel) (pa_cons (pv 1) pa_nil)) pe_int) pe_int (nomark _)) (pss_one (ps_ret (pv 2))) pss_nil)
    (pss_cons (ps_if (pt_cmpR (o_eq hr.units) (pe_op op_mod (pe_callTy cb_int (by rfl) Bz.int_ (by decide +kernel) (pa_cons (pv 1) pa_nil)) pe_int) pe_int (nomark _)) (pss_one (ps_ret (pe_op op_sub (pe_op op_sub pe_int (pv 2)) (pe_op op_mod (pe_op op_fdiv (pe_callTy cb_int (by rfl) Bz.int_ (by decide +kernel) (pa_cons (pv 1) pa_nil)) pe_int) pe_int)))) pss_nil)
    (pss_cons (ps_if (pt_cmpR (o_eq hr.units) (pe_op op_mod (pe_callTy cb_int (by rfl) Bz.int_ (by decide +kernel) (pa_cons (pv 1) pa_nil)) pe_int) pe_int (nomark _)) (pss_one (ps_ret (pe_op op_sub pe_int (pv 2)))) pss_nil)
    (pss_one (ps_ret (pe_op o_add (pe_op o_mul (pe_callTy cb_int (by rfl) Bz.int_ (by decide +kernel) (pa_cons (pv 0) pa_nil)) pe_int) (pe_callTy cb_int (by rfl) Bz.int_ (by decide +kernel) (pa_cons (pv 1) pa_nil))))))))), ?_⟩
  exact fun ex => (sem_seq (sem_set (sem_bin r2_mod (SemE.look (sem_callB c1_int (sem_conB sem_peek sem_nilB))) sem_int))
    (sem_seq (sem_if (sem_tTest (sem_bin r2_eq (SemE.look (sem_bin r2_mod (SemE.look (sem_callB c1_int (sem_conB sem_peek sem_nilB))) sem_int)) sem_int)) (sem_retV (i := 2)) sem_skip)
    (sem_seq (sem_if (sem_tTest (sem_bin r2_eq (SemE.look (sem_bin r2_mod (SemE.look (sem_callB c1_int (sem_conB sem_peek sem_nilB))) sem_int)) sem_int)) (sem_ret (sem_bin r2_sub (SemE.look (sem_bin r2_sub sem_int sem_peek)) (SemE.look (sem_bin r2_mod (SemE.look (sem_bin r2_fdiv (SemE.look (sem_callB c1_int (sem_conB sem_peek sem_nilB))) sem_int)) sem_int)))) sem_skip)
    (sem_seq (sem_if (sem_tTest (sem_bin r2_eq (SemE.look (sem_bin r2_mod (SemE.look (sem_callB c1_int (sem_conB sem_peek sem_nilB))) sem_int)) sem_int)) (sem_ret (sem_bin r2_sub sem_int sem_peek)) sem_skip)
    (sem_ret (sem_bin r2_add (SemE.look (sem_bin r2_mulA (SemE.look (sem_callB c1_int (sem_conB sem_peek sem_nilB))) sem_int)) (SemE.look (sem_callB c1_int (sem_conB sem_peek sem_nilB)))))))))
theorem ok_law_block (Bz : Bl K mg cm A_NotABlock) {f_law_draws : Addr} {fd_law_draws : FuncData} (T_law_draws : Fn K mg "_law_draws" s_law_draws ["_law_cell_here", "_law_many"] f_law_draws fd_law_draws) {f_law_cell : Addr} {fd_law_cell : FuncData} (T_law_cell : Fn K mg "_law_cell" s_law_cell ["_law_script", "_law_k"] f_law_cell fd_law_cell) {f_law_labels : Addr} {fd_law_labels : FuncData} (T_law_labels : Fn K mg "_law_labels" s_law_labels ["_law_draws_here", "_law_names_here", "_law_worths_here"] f_law_labels fd_law_labels) {f_law_number : Addr} {fd_law_number : FuncData} (T_law_number : Fn K mg "_law_number" s_law_number ["_law_first", "_law_second"] f_law_number fd_law_number) {f_law_block : Addr} {fd_law_block : FuncData} (T_law_block : Fn K mg "_law_block" s_law_block ["_law_script", "_law_names_here", "_law_worths_here"] f_law_block fd_law_block) : FnOk P w K mg base CX0 2 f_law_block fd_law_block ["_law_script", "_law_names_here", "_law_worths_here"] (spF w K cm 3 law_block_f) := by
  have G_law_draws : FnOk P w K mg base CX0 1 f_law_draws fd_law_draws ["_law_cell_here", "_law_many"] (spF w K cm 2 law_draws_f) := ok_law_draws Bz  T_law_draws
  have G_law_cell : FnOk P w K mg base CX0 1 f_law_cell fd_law_cell ["_law_script", "_law_k"] (spF w K cm 2 law_cell_f) := ok_law_cell Bz  T_law_cell
  have G_law_labels : FnOk P w K mg base CX0 1 f_law_labels fd_law_labels ["_law_draws_here", "_law_names_here", "_law_worths_here"] (spF w K cm 3 law_labels_f) := ok_law_labels Bz  T_law_labels
  have G_law_number : FnOk P w K mg base CX0 1 f_law_number fd_law_number ["_law_first", "_law_second"] (spF w K cm 2 law_number_f) := ok_law_number Bz  T_law_number
  refine mk_ok (k := 1) T_law_block.F sc_law_block fun cdv A outer s H E hr => ⟨_,
    (pss_cons (ps_set (i := 3) sc_law_block.nd rfl (.inl rfl) (pe_call (G_law_draws) (hr.mono (by omega)) (by rfl) T_law_draws.m T_law_draws.F.kp T_law_draws.b .nil (passE (E := E)) (pa_cons (pe_call (G_law_cell) (hr.mono (by omega)) (by rfl) T_law_cell.m T_law_cell.F.kp T_law_cell.b .nil (passE (E := E)) (pa_cons (pv 0) (pa_cons pe_int pa_nil))) (pa_cons pe_int pa_nil))))
    (pss_cons (ps_set (i := 4) sc_law_block.nd rfl (.inl rfl) (pe_op op_mod (pe_ix ix_seq (pv 3) pe_int (fun _ _ => rfl)) pe_int))
    (pss_cons (ps_set (i := 5) sc_law_block.nd rfl (.inl rfl) (pe_op o_add pe_int (pe_op op_mod (pe_ix ix_seq (pv 3) pe_int (fun _ _ => rfl)) pe_int)))
    (pss_cons (ps_if (pt_cmpR (o_eq hr.units) (pe_op op_mod (pe_ix ix_seq (pv 3) pe_int (fun _ _ => rfl)) pe_int) pe_int (nomark _)) (pss_one (ps_set (i := 5) sc_law_block.nd rfl (.inl rfl) (pe_op o_add (pe_op o_add pe_int (pe_op o_mul (pe_ix ix_seq (pv 3) pe_int (fun _ _ => rfl)) pe_int)) (pe_ix ix_seq (pv 3) pe_int (fun _ _ => rfl))))) pss_nil)
    (pss_cons (ps_set (i := 6) sc_law_block.nd rfl (.inr rfl) pe_knew)
    (pss_cons (ps_for PassesOwn.never rfl (pi_seq (pe_slice o_sl (pv 0) (po_some pe_int) po_none)) (pg_name (i := 7) sc_law_block.nd rfl (.inl rfl)) (pss_cons (ps_set (i := 8) sc_law_block.nd rfl (.inl rfl) (pe_call (G_law_draws) (hr.mono (by omega)) (by rfl) T_law_draws.m T_law_draws.F.kp T_law_draws.b .nil (passE (E := E)) (pa_cons (pv 7) (pa_cons pe_int pa_nil))))
    (pss_cons (ps_set (i := 9) sc_law_block.nd rfl (.inl rfl) (pe_call (G_law_labels) (hr.mono (by omega)) (by rfl) T_law_labels.m T_law_labels.F.kp T_law_labels.b .nil (passE (E := E)) (pa_cons (pe_slice o_sl (pv 8) po_none (po_some (pe_op o_mul pe_int (pe_op op_mod (pe_ix ix_seq (pv 8) pe_int (fun _ _ => rfl)) pe_int)))) (pa_cons (pv 1) (pa_cons (pv 2) pa_nil)))))
    (pss_cons (ps_set (i := 10) sc_law_block.nd rfl (.inl rfl) (pe_op o_add (pv 4) (pe_op op_mod (pe_op o_add (pe_op o_mul (pe_ix ix_seq (pv 8) pe_int (fun _ _ => rfl)) pe_int) (pe_ix ix_seq (pv 8) pe_int (fun _ _ => rfl))) (pe_callB (cb_min2 rfl) (by rfl) Bz.min_ (by decide +kernel) (pa_cons (pv 5) (pa_cons (pe_op op_sub pe_int (pv 4)) pa_nil))))))
    (pss_one (ps_kput (uk hr) (pv 6) (pe_tup (pa_cons (pv 9) (pa_cons (pv 10) pa_nil))) (pe_call (G_law_number) (hr.mono (by omega)) (by rfl) T_law_number.m T_law_number.F.kp T_law_number.b .nil (passE (E := E)) (pa_cons (pe_ix ix_seq (pv 8) pe_int (fun _ _ => rfl)) (pa_cons (pe_ix ix_seq (pv 8) pe_int (fun _ _ => rfl)) pa_nil))) (by rfl)))))))
    (pss_one (ps_ret (pe_tup (pa_cons (pv 4) (pa_cons (pv 5) (pa_cons (pe_lc (own := [("_law_key", 11)]) (g := (gName 11)) (tt := tYes) (te := (tTup (tCons (tOp (rIx K) (tVar 11) (tC (.int 0))) (tCons (tOp (rIx K) (tVar 11) (tC (.int 1))) (tCons (tKGet K w (tVar 6) (tVar 11)) tNil))))) rfl sc_law_block.nd (pi_seq (pe_callB (cb_sortK rfl (uk hr)) (by rfl) Bz.sorted_ (by decide +kernel) (pa_cons (pv 6) pa_nil))) (blkOk_by (N := ["_law_script", "_law_names_here", "_law_worths_here", "_law_draws_here", "_law_start", "_law_width", "_law_found", "_law_cell_here", "_law_part", "_law_labels_here", "_law_time", "_law_key"]) (sc := defScope s_law_block) (by decide +kernel)) (fun _ _ _ _ _ => (pg_name (i := 11) sc_law_block.nd rfl (.inl rfl))) (fun _ _ _ _ _ => pts_nil) (fun _ _ _ _ _ => (pe_tup (pa_cons (pe_ix ix_seq (pv 11) pe_int (fun _ _ => rfl)) (pa_cons (pe_ix ix_seq (pv 11) pe_int (fun _ _ => rfl)) (pa_cons (pe_kget (uk hr) (pv 6) (pv 11) (fun _ _ => rfl)) pa_nil)))))) pa_nil)))))))))))), ?_⟩
  exact fun ex => (sem_seq (sem_set (sem_call (sem_conA (sem_call (sem_conA sem_var (sem_conA sem_int sem_nilA))) (sem_conA sem_int sem_nilA))))
    (sem_seq (sem_set (sem_bin r2_mod (SemE.look (sem_bin r2_ix sem_peek sem_int)) sem_int))
    (sem_seq (sem_set (sem_bin r2_add sem_int (SemE.look (sem_bin r2_mod (SemE.look (sem_bin r2_ix sem_peek sem_int)) sem_int))))
    (sem_seq (sem_if (sem_tTest (sem_bin r2_eq (SemE.look (sem_bin r2_mod (SemE.look (sem_bin r2_ix sem_peek sem_int)) sem_int)) sem_int)) (sem_set (sem_bin r2_add (SemE.look (sem_bin r2_add sem_int (SemE.look (sem_bin r2_mulA (SemE.look (sem_bin r2_ix sem_peek sem_int)) sem_int)))) (SemE.look (sem_bin r2_ix sem_peek sem_int)))) sem_skip)
    (sem_seq (sem_set sem_knew)
    (sem_seq (sem_for (sem_seqI (sem_slice sem_peek (sem_someO sem_int) sem_noO)) (sem_gName (i := 7)) (sem_kill (is := [7, 8, 9, 10]) (sem_seq (sem_set (sem_call (sem_conA sem_var (sem_conA sem_int sem_nilA))))
    (sem_seq (sem_set (sem_call (sem_conA (sem_slice sem_peek sem_noO (sem_someO (SemE.look (sem_bin r2_mulA sem_int (SemE.look (sem_bin r2_mod (SemE.look (sem_bin r2_ix sem_peek sem_int)) sem_int)))))) (sem_conA sem_var (sem_conA sem_var sem_nilA)))))
    (sem_seq (sem_set (sem_bin r2_add sem_peek (SemE.look (sem_bin r2_mod (SemE.look (sem_bin r2_add (SemE.look (sem_bin r2_mulA (SemE.look (sem_bin r2_ix sem_peek sem_int)) sem_int)) (SemE.look (sem_bin r2_ix sem_peek sem_int)))) (SemE.look (sem_callB c1_min2 (sem_conB sem_peek (sem_conB (SemE.look (sem_bin r2_sub sem_int sem_peek)) sem_nilB))))))))
    (sem_frz (is := [9, 10]) (sem_kput (i := 6) (sem_call (sem_conA (sem_bin r2_ix sem_peek sem_int) (sem_conA (sem_bin r2_ix sem_peek sem_int) sem_nilA))) (sem_tup (sem_conA sem_var (sem_conA sem_var sem_nilA))))))))))
    (sem_frz (is := [5]) (sem_ret (sem_tup (sem_conA sem_var (sem_conA sem_var (sem_conA (sem_lc (vs := [11]) (sem_seqI (sem_callB c1_sortK (sem_conB sem_peek sem_nilB))) (sem_gName (i := 11)) sem_yes (sem_tup (sem_conA (sem_bin r2_ix sem_peek sem_int) (sem_conA (sem_bin r2_ix sem_peek sem_int) (sem_conA (sem_kget sem_peek sem_var) sem_nilA)))) (by decide)) sem_nilA))))))))))))
theorem ok_law_series (Bz : Bl K mg cm A_NotABlock)  {f_law_series : Addr} {fd_law_series : FuncData} (T_law_series : Fn K mg "_law_series" s_law_series ["_law_samples"] f_law_series fd_law_series) : FnOk P w K mg base CX0 1 f_law_series fd_law_series ["_law_samples"] (spF w K cm 1 law_series_f) := by
  refine mk_ok (k := 0) T_law_series.F sc_law_series fun cdv A outer s H E hr => ⟨_,
    (pss_cons (ps_set (i := 1) sc_law_series.nd rfl (.inl rfl) (pe_lst pa_nil))
    (pss_cons (ps_for PassesOwn.never rfl (pi_seq (pv 0)) (pg_sq (by rfl) (pgs_cons (pg_name (i := 2) sc_law_series.nd rfl (.inl rfl)) (pgs_cons (pg_name (i := 3) sc_law_series.nd rfl (.inl rfl)) (pgs_cons (pg_name (i := 4) sc_law_series.nd rfl (.inl rfl)) pgs_nil)))) (pss_one (ps_if (PW.pt (pw_and (pt_truth (pv 1) (fun _ => rfl)) (pw_and1 (pt_cmpR (o_eq hr.units) (pe_ix ix_seq (pe_ix ix_seq (pv 1) (pe_op op_sub (pe_callB cb_len (by rfl) Bz.len_ (by decide +kernel) (pa_cons (pv 1) pa_nil)) pe_int) (fun _ _ => rfl)) pe_int (fun _ _ => rfl)) (pv 2) (nomark _))))) (pss_one (ps_expr (pe_bm PySem.F.plainAttrs_list PySem.F.slot_list_append PySem.F.type_list_append mt_append (pe_ix ix_seq (pe_ix ix_seq (pv 1) (pe_op op_sub (pe_callB cb_len (by rfl) Bz.len_ (by decide +kernel) (pa_cons (pv 1) pa_nil)) pe_int) (fun _ _ => rfl)) pe_int (fun _ _ => rfl)) (pa_cons (pe_tup (pa_cons (pv 3) (pa_cons (pv 4) pa_nil))) pa_nil)))) (pss_one (ps_expr (pe_bm PySem.F.plainAttrs_list PySem.F.slot_list_append PySem.F.type_list_append mt_append (pv 1) (pa_cons (pe_tup (pa_cons (pv 2) (pa_cons (pe_lst (pa_cons (pe_tup (pa_cons (pv 3) (pa_cons (pv 4) pa_nil))) pa_nil)) pa_nil))) pa_nil)))))))
    (pss_one (ps_ret (pv 1))))), ?_⟩
  exact fun ex => (sem_seq (sem_set (sem_lst sem_nilA))
    (sem_seq (sem_rows (i := 1) (sem_seqI sem_var) (sem_gTup (n := 3) (sem_gsC (sem_gName (i := 2)) (sem_gsC (sem_gName (i := 3)) (sem_gsC (sem_gName (i := 4)) sem_gsN)))) (by decide) (sn_kill (is := [2, 3, 4]) (sn_if (tn_and tn_any (tn_tB (en_bin r2_eq (en_lastG (j := 0) (en_bin r2_sub en_len (en_of (SemE.look sem_int)))) (en_of sem_peek))))
    (sn_pushG (j := 1) (en_bin r2_sub en_len (en_of (SemE.look sem_int))) (sem_tup (sem_conA sem_var (sem_conA sem_var sem_nilA))))
    (sn_new sem_var (sem_conA (sem_tup (sem_conA sem_var (sem_conA sem_var sem_nilA))) sem_nilA)))))
    (sem_retV (i := 1))))
theorem ok_law_groups (Bz : Bl K mg cm A_NotABlock)  {f_law_groups : Addr} {fd_law_groups : FuncData} (T_law_groups : Fn K mg "_law_groups" s_law_groups ["_law_n"] f_law_groups fd_law_groups) : FnOk P w K mg base CX0 1 f_law_groups fd_law_groups ["_law_n"] (spF w K cm 1 law_groups_f) := by
  refine mk_ok (k := 0) T_law_groups.F sc_law_groups fun cdv A outer s H E hr => ⟨_,
    (pss_cons (ps_set (i := 1) sc_law_groups.nd rfl (.inl rfl) (pe_lst pa_nil))
    (pss_cons (ps_for PassesOwn.never rfl (pi_range1 rfl Bz.range_ (pa_cons pe_int pa_nil)) (pg_name (i := 2) sc_law_groups.nd rfl (.inl rfl)) (pss_cons (ps_if (pt_cmpR o_lt (pv 0) pe_int (nomark _)) (pss_one (ps_ret (pe_op o_add (pv 1) (pe_lst (pa_cons (pv 0) pa_nil))))) pss_nil)
    (pss_cons (ps_expr (pe_bm PySem.F.plainAttrs_list PySem.F.slot_list_append PySem.F.type_list_append mt_append (pv 1) (pa_cons (pe_op o_add (pe_op op_mod (pe_callTy cb_int (by rfl) Bz.int_ (by decide +kernel) (pa_cons (pv 0) pa_nil)) pe_int) pe_int) pa_nil)))
    (pss_one (ps_set (i := 0) sc_law_groups.nd rfl (.inl rfl) (pe_op op_fdiv (pv 0) pe_int))))))
    (pss_one (ps_ret (pv 1))))), ?_⟩
  exact fun ex => (sem_seq (sem_set (sem_lst sem_nilA))
    (sem_seq (sem_for (sem_rng1 (sem_conB sem_int sem_nilB)) (sem_gName (i := 2)) (sem_kill (is := [2]) (sem_seq (sem_if (sem_tTest (sem_bin r2_lt sem_peek sem_int)) (sem_ret (sem_bin r2_add sem_peek (SemE.look (sem_lst (sem_conA sem_var sem_nilA))))) sem_skip)
    (sem_seq (sem_app (i := 1) (sem_bin r2_add (SemE.look (sem_bin r2_mod (SemE.look (sem_callB c1_int (sem_conB sem_peek sem_nilB))) sem_int)) sem_int))
    (sem_set (sem_bin r2_fdiv sem_peek sem_int))))))
    (sem_retV (i := 1))))
theorem ok_law_letters (Bz : Bl K mg cm A_NotABlock) {f_law_groups : Addr} {fd_law_groups : FuncData} (T_law_groups : Fn K mg "_law_groups" s_law_groups ["_law_n"] f_law_groups fd_law_groups) {f_law_letters : Addr} {fd_law_letters : FuncData} (T_law_letters : Fn K mg "_law_letters" s_law_letters ["_law_text"] f_law_letters fd_law_letters) : FnOk P w K mg base CX0 2 f_law_letters fd_law_letters ["_law_text"] (spF w K cm 1 law_letters_f) := by
  have G_law_groups : FnOk P w K mg base CX0 1 f_law_groups fd_law_groups ["_law_n"] (spF w K cm 1 law_groups_f) := ok_law_groups Bz  T_law_groups
  refine mk_ok (k := 1) T_law_letters.F sc_law_letters fun cdv A outer s H E hr => ⟨_,
    (pss_one (ps_ret (pe_op o_add (pe_call (G_law_groups) (hr.mono (by omega)) (by rfl) T_law_groups.m T_law_groups.F.kp T_law_groups.b .nil (passE (E := E)) (pa_cons (pe_callB cb_len (by rfl) Bz.len_ (by decide +kernel) (pa_cons (pv 0) pa_nil)) pa_nil)) (pe_lc (own := [("_law_sign", 1)]) (g := (gName 1)) (tt := tYes) (te := (tCB rOrd1 (tCons (tVar 1) tNil))) rfl sc_law_letters.nd (pi_seq (pv 0)) (blkOk_by (N := ["_law_text", "_law_sign"]) (sc := defScope s_law_letters) (by decide +kernel)) (fun _ _ _ _ _ => (pg_name (i := 1) sc_law_letters.nd rfl (.inl rfl))) (fun _ _ _ _ _ => pts_nil) (fun _ _ _ _ _ => (pe_callB cb_ord (by rfl) Bz.ord_ (by decide +kernel) (pa_cons (pv 1) pa_nil))))))), ?_⟩
  exact fun ex => (sem_ret (sem_bin r2_add (SemE.look (sem_call (sem_conA (sem_callB c1_len (sem_conB sem_peek sem_nilB)) sem_nilA))) (SemE.look (sem_lc (vs := [1]) (sem_seqI sem_var) (sem_gName (i := 1)) sem_yes (sem_callB c1_ord (sem_conB sem_peek sem_nilB)) (by decide)))))
theorem ok_law_labels_bytes (Bz : Bl K mg cm A_NotABlock) {f_law_groups : Addr} {fd_law_groups : FuncData} (T_law_groups : Fn K mg "_law_groups" s_law_groups ["_law_n"] f_law_groups fd_law_groups) {f_law_letters : Addr} {fd_law_letters : FuncData} (T_law_letters : Fn K mg "_law_letters" s_law_letters ["_law_text"] f_law_letters fd_law_letters) {f_law_labels_bytes : Addr} {fd_law_labels_bytes : FuncData} (T_law_labels_bytes : Fn K mg "_law_labels_bytes" s_law_labels_bytes ["_law_labels_here"] f_law_labels_bytes fd_law_labels_bytes) : FnOk P w K mg base CX0 3 f_law_labels_bytes fd_law_labels_bytes ["_law_labels_here"] (spF w K cm 1 law_labels_bytes_f) := by
  have G_law_groups : FnOk P w K mg base CX0 1 f_law_groups fd_law_groups ["_law_n"] (spF w K cm 1 law_groups_f) := ok_law_groups Bz  T_law_groups
  have G_law_letters : FnOk P w K mg base CX0 2 f_law_letters fd_law_letters ["_law_text"] (spF w K cm 1 law_letters_f) := ok_law_letters Bz T_law_groups T_law_letters
  refine mk_ok (k := 2) T_law_labels_bytes.F sc_law_labels_bytes fun cdv A outer s H E hr => ⟨_,
    (pss_cons (ps_set (i := 1) sc_law_labels_bytes.nd rfl (.inl rfl) (pe_call (G_law_groups) (hr.mono (by omega)) (by rfl) T_law_groups.m T_law_groups.F.kp T_law_groups.b .nil (passE (E := E)) (pa_cons (pe_callB cb_len (by rfl) Bz.len_ (by decide +kernel) (pa_cons (pv 0) pa_nil)) pa_nil)))
    (pss_cons (ps_for PassesOwn.never rfl (pi_seq (pv 0)) (pg_sq (by rfl) (pgs_cons (pg_name (i := 2) sc_law_labels_bytes.nd rfl (.inl rfl)) (pgs_cons (pg_name (i := 3) sc_law_labels_bytes.nd rfl (.inl rfl)) pgs_nil))) (pss_one (ps_set (i := 1) sc_law_labels_bytes.nd rfl (.inl rfl) (pe_op o_add (pe_op o_add (pv 1) (pe_call (G_law_letters) (hr.mono (by omega)) (by rfl) T_law_letters.m T_law_letters.F.kp T_law_letters.b .nil (passE (E := E)) (pa_cons (pv 2) pa_nil))) (pe_call (G_law_letters) (hr.mono (by omega)) (by rfl) T_law_letters.m T_law_letters.F.kp T_law_letters.b .nil (passE (E := E)) (pa_cons (pv 3) pa_nil))))))
    (pss_one (ps_ret (pv 1))))), ?_⟩
  exact fun ex => (sem_seq (sem_set (sem_call (sem_conA (sem_callB c1_len (sem_conB sem_peek sem_nilB)) sem_nilA)))
    (sem_seq (sem_for (sem_seqI sem_var) (sem_gTup (n := 2) (sem_gsC (sem_gName (i := 2)) (sem_gsC (sem_gName (i := 3)) sem_gsN))) (sem_kill (is := [2, 3]) (sem_set (sem_bin r2_add (SemE.look (sem_bin r2_add sem_peek (SemE.look (sem_call (sem_conA sem_var sem_nilA))))) (SemE.look (sem_call (sem_conA sem_var sem_nilA)))))))
    (sem_retV (i := 1))))
theorem ok_law_integer_bytes (Bz : Bl K mg cm A_NotABlock) {f_law_groups : Addr} {fd_law_groups : FuncData} (T_law_groups : Fn K mg "_law_groups" s_law_groups ["_law_n"] f_law_groups fd_law_groups) {f_law_integer_bytes : Addr} {fd_law_integer_bytes : FuncData} (T_law_integer_bytes : Fn K mg "_law_integer_bytes" s_law_integer_bytes ["_law_i"] f_law_integer_bytes fd_law_integer_bytes) : FnOk P w K mg base CX0 2 f_law_integer_bytes fd_law_integer_bytes ["_law_i"] (spF w K cm 1 law_integer_bytes_f) := by
  have G_law_groups : FnOk P w K mg base CX0 1 f_law_groups fd_law_groups ["_law_n"] (spF w K cm 1 law_groups_f) := ok_law_groups Bz  T_law_groups
  refine mk_ok (k := 1) T_law_integer_bytes.F sc_law_integer_bytes fun cdv A outer s H E hr => ⟨_,
    (pss_one (ps_ret (pe_call (G_law_groups) (hr.mono (by omega)) (by rfl) T_law_groups.m T_law_groups.F.kp T_law_groups.b .nil (passE (E := E)) (pa_cons (pe_ifExp (pt_cmpR o_ge (pv 0) pe_int (nomark _)) (pe_op o_mul pe_int (pv 0)) (pe_op op_sub (pe_op o_mul (pe_un un_neg pe_int) (pv 0)) pe_int)) pa_nil)))), ?_⟩
  exact fun ex => (sem_ret (sem_call (sem_conA (sem_ifE (b := true) (sem_tTest (sem_bin r2_ge sem_peek sem_int)) (sem_bin r2_mulA sem_int sem_peek) (sem_bin r2_sub (SemE.look (sem_bin r2_mulA (SemE.look (sem_neg sem_int)) sem_peek)) sem_int)) sem_nilA)))
theorem ok_law_block_bytes (Bz : Bl K mg cm A_NotABlock) {f_law_series : Addr} {fd_law_series : FuncData} (T_law_series : Fn K mg "_law_series" s_law_series ["_law_samples"] f_law_series fd_law_series) {f_law_groups : Addr} {fd_law_groups : FuncData} (T_law_groups : Fn K mg "_law_groups" s_law_groups ["_law_n"] f_law_groups fd_law_groups) {f_law_labels_bytes : Addr} {fd_law_labels_bytes : FuncData} (T_law_labels_bytes : Fn K mg "_law_labels_bytes" s_law_labels_bytes ["_law_labels_here"] f_law_labels_bytes fd_law_labels_bytes) {f_law_letters : Addr} {fd_law_letters : FuncData} (T_law_letters : Fn K mg "_law_letters" s_law_letters ["_law_text"] f_law_letters fd_law_letters) {f_law_integer_bytes : Addr} {fd_law_integer_bytes : FuncData} (T_law_integer_bytes : Fn K mg "_law_integer_bytes" s_law_integer_bytes ["_law_i"] f_law_integer_bytes fd_law_integer_bytes) {f_law_block_bytes : Addr} {fd_law_block_bytes : FuncData} (T_law_block_bytes : Fn K mg "_law_block_bytes" s_law_block_bytes ["_law_start", "_law_width", "_law_samples"] f_law_block_bytes fd_law_block_bytes) : FnOk P w K mg base CX0 4 f_law_block_bytes fd_law_block_bytes ["_law_start", "_law_width", "_law_samples"] (spF w K cm 3 law_block_bytes_f) := by
  have G_law_series : FnOk P w K mg base CX0 1 f_law_series fd_law_series ["_law_samples"] (spF w K cm 1 law_series_f) := ok_law_series Bz  T_law_series
  have G_law_groups : FnOk P w K mg base CX0 1 f_law_groups fd_law_groups ["_law_n"] (spF w K cm 1 law_groups_f) := ok_law_groups Bz  T_law_groups
  have G_law_labels_bytes : FnOk P w K mg base CX0 3 f_law_labels_bytes fd_law_labels_bytes ["_law_labels_here"] (spF w K cm 1 law_labels_bytes_f) := ok_law_labels_bytes Bz T_law_groups T_law_letters T_law_labels_bytes
  have G_law_integer_bytes : FnOk P w K mg base CX0 2 f_law_integer_bytes fd_law_integer_bytes ["_law_i"] (spF w K cm 1 law_integer_bytes_f) := ok_law_integer_bytes Bz T_law_groups T_law_integer_bytes
  refine mk_ok (k := 3) T_law_block_bytes.F sc_law_block_bytes fun cdv A outer s H E hr => ⟨_,
    (pss_cons (ps_set (i := 3) sc_law_block_bytes.nd rfl (.inl rfl) (pe_call (G_law_series) (hr.mono (by omega)) (by rfl) T_law_series.m T_law_series.F.kp T_law_series.b .nil (passE (E := E)) (pa_cons (pv 2) pa_nil)))
    (pss_cons (ps_set (i := 4) sc_law_block_bytes.nd rfl (.inl rfl) (pe_op o_add (pe_op o_add (pe_call (G_law_groups) (hr.mono (by omega)) (by rfl) T_law_groups.m T_law_groups.F.kp T_law_groups.b .nil (passE (E := E)) (pa_cons (pv 0) pa_nil)) (pe_call (G_law_groups) (hr.mono (by omega)) (by rfl) T_law_groups.m T_law_groups.F.kp T_law_groups.b .nil (passE (E := E)) (pa_cons (pv 1) pa_nil))) (pe_call (G_law_groups) (hr.mono (by omega)) (by rfl) T_law_groups.m T_law_groups.F.kp T_law_groups.b .nil (passE (E := E)) (pa_cons (pe_callB cb_len (by rfl) Bz.len_ (by decide +kernel) (pa_cons (pv 3) pa_nil)) pa_nil))))
    (pss_cons (ps_for PassesOwn.never rfl (pi_seq (pv 3)) (pg_sq (by rfl) (pgs_cons (pg_name (i := 5) sc_law_block_bytes.nd rfl (.inl rfl)) (pgs_cons (pg_name (i := 6) sc_law_block_bytes.nd rfl (.inl rfl)) pgs_nil))) (pss_cons (ps_set (i := 4) sc_law_block_bytes.nd rfl (.inl rfl) (pe_op o_add (pe_op o_add (pv 4) (pe_call (G_law_labels_bytes) (hr.mono (by omega)) (by rfl) T_law_labels_bytes.m T_law_labels_bytes.F.kp T_law_labels_bytes.b .nil (passE (E := E)) (pa_cons (pv 5) pa_nil))) (pe_call (G_law_groups) (hr.mono (by omega)) (by rfl) T_law_groups.m T_law_groups.F.kp T_law_groups.b .nil (passE (E := E)) (pa_cons (pe_callB cb_len (by rfl) Bz.len_ (by decide +kernel) (pa_cons (pv 6) pa_nil)) pa_nil))))
    (pss_cons (ps_set (i := 7) sc_law_block_bytes.nd rfl (.inl rfl) (pv 0))
    (pss_cons (ps_set (i := 8) sc_law_block_bytes.nd rfl (.inl rfl) pe_int)
    (pss_one (ps_for PassesOwn.never rfl (pi_seq (pv 6)) (pg_sq (by rfl) (pgs_cons (pg_name (i := 9) sc_law_block_bytes.nd rfl (.inl rfl)) (pgs_cons (pg_name (i := 10) sc_law_block_bytes.nd rfl (.inl rfl)) pgs_nil))) (pss_cons (ps_set (i := 4) sc_law_block_bytes.nd rfl (.inl rfl) (pe_op o_add (pe_op o_add (pv 4) (pe_call (G_law_groups) (hr.mono (by omega)) (by rfl) T_law_groups.m T_law_groups.F.kp T_law_groups.b .nil (passE (E := E)) (pa_cons (pe_op op_sub (pv 9) (pv 7)) pa_nil))) (pe_call (G_law_integer_bytes) (hr.mono (by omega)) (by rfl) T_law_integer_bytes.m T_law_integer_bytes.F.kp T_law_integer_bytes.b .nil (passE (E := E)) (pa_cons (pe_op op_sub (pv 10) (pv 8)) pa_nil))))
    (pss_cons (ps_set (i := 7) sc_law_block_bytes.nd rfl (.inl rfl) (pe_op o_add (pv 9) pe_int))
    (pss_one (ps_set (i := 8) sc_law_block_bytes.nd rfl (.inl rfl) (pv 10)))))))))))
    (pss_one (ps_ret (pv 4)))))), ?_⟩
  exact fun ex => (sem_seq (sem_set (sem_call (sem_conA sem_var sem_nilA)))
    (sem_seq (sem_set (sem_bin r2_add (SemE.look (sem_bin r2_add (SemE.look (sem_call (sem_conA sem_var sem_nilA))) (SemE.look (sem_call (sem_conA sem_var sem_nilA))))) (SemE.look (sem_call (sem_conA (sem_callB c1_len (sem_conB sem_peek sem_nilB)) sem_nilA)))))
    (sem_seq (sem_frz (is := [3]) (sem_for (sem_seqI sem_var) (sem_gTup (n := 2) (sem_gsC (sem_gName (i := 5)) (sem_gsC (sem_gName (i := 6)) sem_gsN))) (sem_kill (is := [5, 6, 7, 8, 9, 10]) (sem_seq (sem_set (sem_bin r2_add (SemE.look (sem_bin r2_add sem_peek (SemE.look (sem_call (sem_conA sem_var sem_nilA))))) (SemE.look (sem_call (sem_conA (sem_callB c1_len (sem_conB sem_peek sem_nilB)) sem_nilA)))))
    (sem_seq (sem_set sem_var)
    (sem_seq (sem_set sem_int)
    (sem_for (sem_seqI sem_var) (sem_gTup (n := 2) (sem_gsC (sem_gName (i := 9)) (sem_gsC (sem_gName (i := 10)) sem_gsN))) (sem_kill (is := [9, 10]) (sem_seq (sem_set (sem_bin r2_add (SemE.look (sem_bin r2_add sem_peek (SemE.look (sem_call (sem_conA (sem_bin r2_sub sem_peek sem_peek) sem_nilA))))) (SemE.look (sem_call (sem_conA (sem_bin r2_sub sem_peek sem_peek) sem_nilA)))))
    (sem_seq (sem_set (sem_bin r2_add sem_peek sem_int))
    (sem_set sem_var)))))))))))
    (sem_retV (i := 4)))))
theorem ok_law (Bz : Bl K mg cm A_NotABlock) {t_LAST_TIME : Tok} {t_LETTERS : Tok} {t_MOST_CHARS : Tok} {t_MOST_LABELS : Tok} {t_VALUE_BOUND : Tok} {t_WORD_CHARS : Tok} (C_LAST_TIME : True ∧ mg "LAST_TIME" = some (.int 10000 t_LAST_TIME)) (C_LETTERS : True ∧ mg "LETTERS" = some (.str "abcdefghijklmnopqrstuvwxyz" t_LETTERS)) (C_MOST_CHARS : True ∧ mg "MOST_CHARS" = some (.int 20 t_MOST_CHARS)) (C_MOST_LABELS : True ∧ mg "MOST_LABELS" = some (.int 6 t_MOST_LABELS)) (C_VALUE_BOUND : True ∧ mg "VALUE_BOUND" = some (.int 1000000000000000 t_VALUE_BOUND)) (C_WORD_CHARS : True ∧ mg "WORD_CHARS" = some (.str "abcdefghijklmnopqrstuvwxyz0123456789_" t_WORD_CHARS)) {f_law_names : Addr} {fd_law_names : FuncData} (T_law_names : Fn K mg "_law_names" s_law_names ["_law_cell_here", "_law_many"] f_law_names fd_law_names) {f_law_draws : Addr} {fd_law_draws : FuncData} (T_law_draws : Fn K mg "_law_draws" s_law_draws ["_law_cell_here", "_law_many"] f_law_draws fd_law_draws) {f_law_name : Addr} {fd_law_name : FuncData} (T_law_name : Fn K mg "_law_name" s_law_name ["_law_first", "_law_second"] f_law_name fd_law_name) {f_law_cell : Addr} {fd_law_cell : FuncData} (T_law_cell : Fn K mg "_law_cell" s_law_cell ["_law_script", "_law_k"] f_law_cell fd_law_cell) {f_law_worths : Addr} {fd_law_worths : FuncData} (T_law_worths : Fn K mg "_law_worths" s_law_worths ["_law_cell_here", "_law_many"] f_law_worths fd_law_worths) {f_law_worth : Addr} {fd_law_worth : FuncData} (T_law_worth : Fn K mg "_law_worth" s_law_worth ["_law_first", "_law_second"] f_law_worth fd_law_worth) {f_law_block : Addr} {fd_law_block : FuncData} (T_law_block : Fn K mg "_law_block" s_law_block ["_law_script", "_law_names_here", "_law_worths_here"] f_law_block fd_law_block) {f_law_labels : Addr} {fd_law_labels : FuncData} (T_law_labels : Fn K mg "_law_labels" s_law_labels ["_law_draws_here", "_law_names_here", "_law_worths_here"] f_law_labels fd_law_labels) {f_law_number : Addr} {fd_law_number : FuncData} (T_law_number : Fn K mg "_law_number" s_law_number ["_law_first", "_law_second"] f_law_number fd_law_number) {f_block_of : Addr} {fd_block_of : FuncData} (T_block_of : Fn K mg "block_of" s_block_of ["start", "width", "view"] f_block_of fd_block_of) {f_series_of : Addr} {fd_series_of : FuncData} (T_series_of : Fn K mg "series_of" s_series_of ["view"] f_series_of fd_series_of) {f_law_series : Addr} {fd_law_series : FuncData} (T_law_series : Fn K mg "_law_series" s_law_series ["_law_samples"] f_law_series fd_law_series) {f_samples_of : Addr} {fd_samples_of : FuncData} (T_samples_of : Fn K mg "samples_of" s_samples_of ["block"] f_samples_of fd_samples_of) {f_spread : Addr} {fd_spread : FuncData} (T_spread : Fn K mg "spread" s_spread ["series"] f_spread fd_spread) {f_put_block : Addr} {fd_put_block : FuncData} (T_put_block : Fn K mg "put_block" s_put_block ["block"] f_put_block fd_put_block) {f_put_number : Addr} {fd_put_number : FuncData} (T_put_number : Fn K mg "put_number" s_put_number ["n"] f_put_number fd_put_number) {f_put_labels : Addr} {fd_put_labels : FuncData} (T_put_labels : Fn K mg "put_labels" s_put_labels ["labels"] f_put_labels fd_put_labels) {f_put_text : Addr} {fd_put_text : FuncData} (T_put_text : Fn K mg "put_text" s_put_text ["text"] f_put_text fd_put_text) {f_put_points : Addr} {fd_put_points : FuncData} (T_put_points : Fn K mg "put_points" s_put_points ["start", "points"] f_put_points fd_put_points) {f_put_integer : Addr} {fd_put_integer : FuncData} (T_put_integer : Fn K mg "put_integer" s_put_integer ["n"] f_put_integer fd_put_integer) {f_law_block_bytes : Addr} {fd_law_block_bytes : FuncData} (T_law_block_bytes : Fn K mg "_law_block_bytes" s_law_block_bytes ["_law_start", "_law_width", "_law_samples"] f_law_block_bytes fd_law_block_bytes) {f_law_groups : Addr} {fd_law_groups : FuncData} (T_law_groups : Fn K mg "_law_groups" s_law_groups ["_law_n"] f_law_groups fd_law_groups) {f_law_labels_bytes : Addr} {fd_law_labels_bytes : FuncData} (T_law_labels_bytes : Fn K mg "_law_labels_bytes" s_law_labels_bytes ["_law_labels_here"] f_law_labels_bytes fd_law_labels_bytes) {f_law_letters : Addr} {fd_law_letters : FuncData} (T_law_letters : Fn K mg "_law_letters" s_law_letters ["_law_text"] f_law_letters fd_law_letters) {f_law_integer_bytes : Addr} {fd_law_integer_bytes : FuncData} (T_law_integer_bytes : Fn K mg "_law_integer_bytes" s_law_integer_bytes ["_law_i"] f_law_integer_bytes fd_law_integer_bytes) {f_take_block : Addr} {fd_take_block : FuncData} (T_take_block : Fn K mg "take_block" s_take_block ["data"] f_take_block fd_take_block) {f_take_number : Addr} {fd_take_number : FuncData} (T_take_number : Fn K mg "take_number" s_take_number ["data", "at"] f_take_number fd_take_number) {f_take_all_series : Addr} {fd_take_all_series : FuncData} (T_take_all_series : Fn K mg "take_all_series" s_take_all_series ["data", "at", "start"] f_take_all_series fd_take_all_series) {f_take_series : Addr} {fd_take_series : FuncData} (T_take_series : Fn K mg "take_series" s_take_series ["data", "at", "start"] f_take_series fd_take_series) {f_take_labels : Addr} {fd_take_labels : FuncData} (T_take_labels : Fn K mg "take_labels" s_take_labels ["data", "at"] f_take_labels fd_take_labels) {f_take_text : Addr} {fd_take_text : FuncData} (T_take_text : Fn K mg "take_text" s_take_text ["data", "at"] f_take_text fd_take_text) {f_char_at : Addr} {fd_char_at : FuncData} (T_char_at : Fn K mg "char_at" s_char_at ["place"] f_char_at fd_char_at) {f_take_points : Addr} {fd_take_points : FuncData} (T_take_points : Fn K mg "take_points" s_take_points ["data", "at", "start", "many"] f_take_points fd_take_points) {f_take_integer : Addr} {fd_take_integer : FuncData} (T_take_integer : Fn K mg "take_integer" s_take_integer ["data", "at"] f_take_integer fd_take_integer) {f_is_block : Addr} {fd_is_block : FuncData} (T_is_block : Fn K mg "is_block" s_is_block ["block"] f_is_block fd_is_block) {f_is_plain : Addr} {fd_is_plain : FuncData} (T_is_plain : Fn K mg "is_plain" s_is_plain ["sample"] f_is_plain fd_is_plain) {f_are_plain_labels : Addr} {fd_are_plain_labels : FuncData} (T_are_plain_labels : Fn K mg "are_plain_labels" s_are_plain_labels ["labels"] f_are_plain_labels fd_are_plain_labels) {f_is_name : Addr} {fd_is_name : FuncData} (T_is_name : Fn K mg "is_name" s_is_name ["text"] f_is_name fd_is_name) {f_is_value : Addr} {fd_is_value : FuncData} (T_is_value : Fn K mg "is_value" s_is_value ["text"] f_is_value fd_is_value) {f_law : Addr} {fd_law : FuncData} (T_law : Fn K mg "law" s_law ["_law_script"] f_law fd_law) : FnOk P w K mg base (L2.CX P w) 7 f_law fd_law ["_law_script"] (spF w K cm 1 law_f) := by
  have G_law_names : FnOk P w K mg base CX0 2 f_law_names fd_law_names ["_law_cell_here", "_law_many"] (spF w K cm 2 law_names_f) := ok_law_names Bz T_law_draws T_law_name T_law_names
  have G_law_cell : FnOk P w K mg base CX0 1 f_law_cell fd_law_cell ["_law_script", "_law_k"] (spF w K cm 2 law_cell_f) := ok_law_cell Bz  T_law_cell
  have G_law_worths : FnOk P w K mg base CX0 2 f_law_worths fd_law_worths ["_law_cell_here", "_law_many"] (spF w K cm 2 law_worths_f) := ok_law_worths Bz T_law_draws T_law_worth T_law_worths
  have G_law_block : FnOk P w K mg base CX0 2 f_law_block fd_law_block ["_law_script", "_law_names_here", "_law_worths_here"] (spF w K cm 3 law_block_f) := ok_law_block Bz T_law_draws T_law_cell T_law_labels T_law_number T_law_block
  have G_block_of : FnOk P w K mg base CX0 2 f_block_of fd_block_of ["start", "width", "view"] (spF w K cm 3 block_of_f) := ok_block_of Bz T_series_of T_block_of
  have G_law_series : FnOk P w K mg base CX0 1 f_law_series fd_law_series ["_law_samples"] (spF w K cm 1 law_series_f) := ok_law_series Bz  T_law_series
  have G_samples_of : FnOk P w K mg base CX0 2 f_samples_of fd_samples_of ["block"] (spF w K cm 1 samples_of_f) := ok_samples_of Bz T_spread T_samples_of
  have G_put_block : FnOk P w K mg base CX0 4 f_put_block fd_put_block ["block"] (spF w K cm 1 put_block_f) := ok_put_block Bz T_put_number T_put_labels T_put_text T_put_points T_put_integer T_put_block
  have G_law_block_bytes : FnOk P w K mg base CX0 4 f_law_block_bytes fd_law_block_bytes ["_law_start", "_law_width", "_law_samples"] (spF w K cm 3 law_block_bytes_f) := ok_law_block_bytes Bz T_law_series T_law_groups T_law_labels_bytes T_law_letters T_law_integer_bytes T_law_block_bytes
  have G_take_block : FnOk P w K mg base (L2.CX P w) 6 f_take_block fd_take_block ["data"] (spF w K cm 1 take_block_f) := ok_take_block Bz C_LAST_TIME C_LETTERS C_MOST_CHARS C_MOST_LABELS C_VALUE_BOUND C_WORD_CHARS T_take_number T_take_all_series T_take_series T_take_labels T_take_text T_char_at T_take_points T_take_integer T_is_block T_is_plain T_are_plain_labels T_is_name T_is_value T_take_block
  refine mk_okX (k := 6) T_law.F sc_law fun cdv A outer s H E hr => ⟨_,
    (pss_cons (ps_set (i := 1) sc_law.nd rfl (.inl rfl) (pe_call (G_law_names) (hr.mono (by omega)) (by rfl) T_law_names.m T_law_names.F.kp T_law_names.b .nil (passE (E := E)) (pa_cons (pe_call (G_law_cell) (hr.mono (by omega)) (by rfl) T_law_cell.m T_law_cell.F.kp T_law_cell.b .nil (passE (E := E)) (pa_cons (pv 0) (pa_cons pe_int pa_nil))) (pa_cons pe_int pa_nil))))
    (pss_cons (ps_set (i := 2) sc_law.nd rfl (.inl rfl) (pe_call (G_law_worths) (hr.mono (by omega)) (by rfl) T_law_worths.m T_law_worths.F.kp T_law_worths.b .nil (passE (E := E)) (pa_cons (pe_call (G_law_cell) (hr.mono (by omega)) (by rfl) T_law_cell.m T_law_cell.F.kp T_law_cell.b .nil (passE (E := E)) (pa_cons (pv 0) (pa_cons pe_int pa_nil))) (pa_cons pe_int pa_nil))))
    (pss_cons (ps_asg (pe_call (G_law_block) (hr.mono (by omega)) (by rfl) T_law_block.m T_law_block.F.kp T_law_block.b .nil (passE (E := E)) (pa_cons (pv 0) (pa_cons (pv 1) (pa_cons (pv 2) pa_nil)))) (pg_sq (by rfl) (pgs_cons (pg_name (i := 3) sc_law.nd rfl (.inl rfl)) (pgs_cons (pg_name (i := 4) sc_law.nd rfl (.inl rfl)) (pgs_cons (pg_name (i := 5) sc_law.nd rfl (.inl rfl)) pgs_nil)))))
    (pss_cons (ps_set (i := 6) sc_law.nd rfl (.inl rfl) (pe_ifExp (pt_cmpR o_le (pe_op o_add (pv 3) (pv 4)) pe_int (nomark _)) (pe_lst (pa_cons (pe_tup (pa_cons (pe_tup pa_nil) (pa_cons (pe_op o_add (pv 3) (pv 4)) (pa_cons pe_int pa_nil)))) pa_nil)) (pe_lst pa_nil)))
    (pss_cons (ps_set (i := 6) sc_law.nd rfl (.inl rfl) (pe_op o_add (pv 6) (pe_ifExp (pt_cmpR o_gt (pv 3) pe_int (nomark _)) (pe_lst (pa_cons (pe_tup (pa_cons (pe_tup (pa_cons (pe_tup (pa_cons pe_str (pa_cons pe_str pa_nil))) pa_nil)) (pa_cons (pe_op op_sub (pv 3) pe_int) (pa_cons pe_int pa_nil)))) pa_nil)) (pe_lst pa_nil))))
    (pss_cons (ps_set (i := 7) sc_law.nd rfl (.inl rfl) (pe_callB (cb_sorted (u65 hr)) (by rfl) Bz.sorted_ (by decide +kernel) (pa_cons (pe_op o_add (pv 5) (pv 6)) pa_nil)))
    (pss_cons (ps_set (i := 8) sc_law.nd rfl (.inl rfl) (pe_call (G_block_of) (hr.mono (by omega)) (by rfl) T_block_of.m T_block_of.F.kp T_block_of.b .nil (passE (E := E)) (pa_cons (pv 3) (pa_cons (pv 4) (pa_cons (pe_callTy cb_list (by rfl) Bz.list_ (by decide +kernel) (pa_cons (pv 7) pa_nil)) pa_nil)))))
    (pss_cons (ps_if (pt_not (pt_truth (pv 5) (fun _ => rfl))) (pss_one (ps_ret (pe_cmpR op_isN (pv 8) pe_non (nomark _)))) pss_nil)
    (pss_cons (ps_if (PW.pt (pw_or (pt_cmpR (o_ne hr.units) (pv 8) (pe_tup (pa_cons (pv 3) (pa_cons (pv 4) (pa_cons (pe_call (G_law_series) (hr.mono (by omega)) (by rfl) T_law_series.m T_law_series.F.kp T_law_series.b .nil (passE (E := E)) (pa_cons (pv 5) pa_nil)) pa_nil)))) (nomark _)) (pw_or1 (pt_cmpR (o_ne hr.units) (pe_call (G_samples_of) (hr.mono (by omega)) (by rfl) T_samples_of.m T_samples_of.F.kp T_samples_of.b .nil (passE (E := E)) (pa_cons (pv 8) pa_nil)) (pv 5) (nomark _))))) (pss_one (ps_ret pe_bl)) pss_nil)
    (pss_cons (ps_set (i := 9) sc_law.nd rfl (.inl rfl) (pe_call (G_put_block) (hr.mono (by omega)) (by rfl) T_put_block.m T_put_block.F.kp T_put_block.b .nil (passE (E := E)) (pa_cons (pv 8) pa_nil)))
    (pss_one (ps_ret (pe_and (pe_callB call_isi (by rfl) Bz.isinstance_ (by decide +kernel) (pa_cons (pv 9) (pa_cons (pe_bltn (v := .ty "list") (by rfl) Bz.list_ (by decide +kernel) rfl) pa_nil))) (pe_and (pe_cmpR (o_eq hr.units) (pv 9) (pe_call (G_law_block_bytes) (hr.mono (by omega)) (by rfl) T_law_block_bytes.m T_law_block_bytes.F.kp T_law_block_bytes.b .nil (passE (E := E)) (pa_cons (pv 3) (pa_cons (pv 4) (pa_cons (pv 5) pa_nil)))) (nomark _)) (pe_one (pe_cmpR (o_eq hr.units) (pe_call (G_take_block) (hr.mono (by omega)) (by rfl) T_take_block.m T_take_block.F.kp T_take_block.b .nil passX (pa_cons (pe_callTy cb_list (by rfl) Bz.list_ (by decide +kernel) (pa_cons (pv 9) pa_nil)) pa_nil)) (pv 8) (nomark _))))))))))))))))), ?_⟩
  exact fun ex => (sem_seq (sem_set (sem_call (sem_conA (sem_call (sem_conA sem_var (sem_conA sem_int sem_nilA))) (sem_conA sem_int sem_nilA))))
    (sem_seq (sem_set (sem_call (sem_conA (sem_call (sem_conA sem_var (sem_conA sem_int sem_nilA))) (sem_conA sem_int sem_nilA))))
    (sem_seq (sem_frz (is := [1, 2]) (sem_asgG (sem_call (sem_conA sem_var (sem_conA sem_var (sem_conA sem_var sem_nilA)))) (sem_gTup (n := 3) (sem_gsC (sem_gName (i := 3)) (sem_gsC (sem_gName (i := 4)) (sem_gsC (sem_gName (i := 5)) sem_gsN))))))
    (sem_seq (sem_set (sem_ifE (b := true) (sem_tTest (sem_bin r2_le (SemE.look (sem_bin r2_add sem_peek sem_peek)) sem_int)) (sem_lst (sem_conA (sem_tup (sem_conA (sem_tup sem_nilA) (sem_conA (sem_bin r2_add sem_peek sem_peek) (sem_conA sem_int sem_nilA)))) sem_nilA)) (sem_lst sem_nilA)))
    (sem_seq (sem_set (sem_bin r2_add sem_peek (sem_ifE (b := false) (sem_tTest (sem_bin r2_gt sem_peek sem_int)) (SemE.look (sem_lst (sem_conA (sem_tup (sem_conA (sem_tup (sem_conA (sem_tup (sem_conA sem_str (sem_conA sem_str sem_nilA))) sem_nilA)) (sem_conA (sem_bin r2_sub sem_peek sem_int) (sem_conA sem_int sem_nilA)))) sem_nilA))) (SemE.look (sem_lst sem_nilA)))))
    (sem_seq (sem_set (sem_callB c1_sorted (sem_conB (SemE.look (sem_bin r2_add sem_peek sem_peek)) sem_nilB)))
    (sem_seq (sem_set (sem_call (sem_conA sem_var (sem_conA sem_var (sem_conA (sem_callB c1_list (sem_conB sem_peek sem_nilB)) sem_nilA)))))
    (sem_seq (sem_if (sem_not (sem_tru sem_peek)) (sem_ret (sem_bin r2_isn sem_peek sem_non)) sem_skip)
    (sem_seq (sem_frz (is := [8]) (sem_if (sem_or (sem_tTest (sem_bin r2_ne sem_peek (SemE.look (sem_tup (sem_conA sem_var (sem_conA sem_var (sem_conA (sem_call (sem_conA sem_var sem_nilA)) sem_nilA))))))) (sem_tTest (sem_bin r2_ne (SemE.look (sem_call (sem_conA sem_var sem_nilA))) sem_peek))) (sem_ret sem_bl) sem_skip))
    (sem_seq (sem_frz (is := [8]) (sem_set (sem_call (sem_conA sem_var sem_nilA))))
    (sem_ret (sem_andV (SemE.look (sem_isi (T := "list") sem_peek)) (sem_andV (SemE.look (sem_bin r2_eq sem_peek (SemE.look (sem_call (sem_conA sem_var (sem_conA sem_var (sem_conA sem_var sem_nilA))))))) (sem_bin r2_eq (SemE.look (sem_call (sem_conA (sem_callB c1_list (sem_conB sem_peek sem_nilB)) sem_nilA))) sem_peek))))))))))))))
end
/-! ### the end -/
theorem all_mk {l : PySem.W.OpenLaw} {w : World} {K : PySem.W.Frag} {h : Heap} {mg : Str → Option Value} {fa : Addr} {A_NotABlock : Addr} (X : K.In h) (G : h.Ns mainGlobals mg) (hfa : mg "law" = some (.ref fa))
    {od_is_value an_is_value : Option Addr} {sl_is_value : Array (Option Value)} {oc_is_value kV_is_value dc_is_value pm_is_value cd_is_value ct_is_value : Value} {f_is_value : Addr}
    {od_is_name an_is_name : Option Addr} {sl_is_name : Array (Option Value)} {oc_is_name kV_is_name dc_is_name pm_is_name cd_is_name ct_is_name : Value} {f_is_name : Addr}
    {od_put_number an_put_number : Option Addr} {sl_put_number : Array (Option Value)} {oc_put_number kV_put_number dc_put_number pm_put_number cd_put_number ct_put_number : Value} {f_put_number : Addr}
    {od_put_integer an_put_integer : Option Addr} {sl_put_integer : Array (Option Value)} {oc_put_integer kV_put_integer dc_put_integer pm_put_integer cd_put_integer ct_put_integer : Value} {f_put_integer : Addr}
    {od_put_text an_put_text : Option Addr} {sl_put_text : Array (Option Value)} {oc_put_text kV_put_text dc_put_text pm_put_text cd_put_text ct_put_text : Value} {f_put_text : Addr}
    {od_put_labels an_put_labels : Option Addr} {sl_put_labels : Array (Option Value)} {oc_put_labels kV_put_labels dc_put_labels pm_put_labels cd_put_labels ct_put_labels : Value} {f_put_labels : Addr}
    {od_take_number an_take_number : Option Addr} {sl_take_number : Array (Option Value)} {oc_take_number kV_take_number dc_take_number pm_take_number cd_take_number ct_take_number : Value} {f_take_number : Addr}
    {od_take_integer an_take_integer : Option Addr} {sl_take_integer : Array (Option Value)} {oc_take_integer kV_take_integer dc_take_integer pm_take_integer cd_take_integer ct_take_integer : Value} {f_take_integer : Addr}
    {od_char_at an_char_at : Option Addr} {sl_char_at : Array (Option Value)} {oc_char_at kV_char_at dc_char_at pm_char_at cd_char_at ct_char_at : Value} {f_char_at : Addr}
    {od_take_text an_take_text : Option Addr} {sl_take_text : Array (Option Value)} {oc_take_text kV_take_text dc_take_text pm_take_text cd_take_text ct_take_text : Value} {f_take_text : Addr}
    {od_take_labels an_take_labels : Option Addr} {sl_take_labels : Array (Option Value)} {oc_take_labels kV_take_labels dc_take_labels pm_take_labels cd_take_labels ct_take_labels : Value} {f_take_labels : Addr}
    {od_are_plain_labels an_are_plain_labels : Option Addr} {sl_are_plain_labels : Array (Option Value)} {oc_are_plain_labels kV_are_plain_labels dc_are_plain_labels pm_are_plain_labels cd_are_plain_labels ct_are_plain_labels : Value} {f_are_plain_labels : Addr}
    {od_is_plain an_is_plain : Option Addr} {sl_is_plain : Array (Option Value)} {oc_is_plain kV_is_plain dc_is_plain pm_is_plain cd_is_plain ct_is_plain : Value} {f_is_plain : Addr}
    {od_series_of an_series_of : Option Addr} {sl_series_of : Array (Option Value)} {oc_series_of kV_series_of dc_series_of pm_series_of cd_series_of ct_series_of : Value} {f_series_of : Addr}
    {od_spread an_spread : Option Addr} {sl_spread : Array (Option Value)} {oc_spread kV_spread dc_spread pm_spread cd_spread ct_spread : Value} {f_spread : Addr}
    {od_put_points an_put_points : Option Addr} {sl_put_points : Array (Option Value)} {oc_put_points kV_put_points dc_put_points pm_put_points cd_put_points ct_put_points : Value} {f_put_points : Addr}
    {od_put_block an_put_block : Option Addr} {sl_put_block : Array (Option Value)} {oc_put_block kV_put_block dc_put_block pm_put_block cd_put_block ct_put_block : Value} {f_put_block : Addr}
    {od_take_points an_take_points : Option Addr} {sl_take_points : Array (Option Value)} {oc_take_points kV_take_points dc_take_points pm_take_points cd_take_points ct_take_points : Value} {f_take_points : Addr}
    {od_take_series an_take_series : Option Addr} {sl_take_series : Array (Option Value)} {oc_take_series kV_take_series dc_take_series pm_take_series cd_take_series ct_take_series : Value} {f_take_series : Addr}
    {od_take_all_series an_take_all_series : Option Addr} {sl_take_all_series : Array (Option Value)} {oc_take_all_series kV_take_all_series dc_take_all_series pm_take_all_series cd_take_all_series ct_take_all_series : Value} {f_take_all_series : Addr}
    {od_is_block an_is_block : Option Addr} {sl_is_block : Array (Option Value)} {oc_is_block kV_is_block dc_is_block pm_is_block cd_is_block ct_is_block : Value} {f_is_block : Addr}
    {od_take_block an_take_block : Option Addr} {sl_take_block : Array (Option Value)} {oc_take_block kV_take_block dc_take_block pm_take_block cd_take_block ct_take_block : Value} {f_take_block : Addr}
    {od_block_of an_block_of : Option Addr} {sl_block_of : Array (Option Value)} {oc_block_of kV_block_of dc_block_of pm_block_of cd_block_of ct_block_of : Value} {f_block_of : Addr}
    {od_samples_of an_samples_of : Option Addr} {sl_samples_of : Array (Option Value)} {oc_samples_of kV_samples_of dc_samples_of pm_samples_of cd_samples_of ct_samples_of : Value} {f_samples_of : Addr}
    {od_law_cell an_law_cell : Option Addr} {sl_law_cell : Array (Option Value)} {oc_law_cell kV_law_cell dc_law_cell pm_law_cell cd_law_cell ct_law_cell : Value} {f_law_cell : Addr}
    {od_law_draws an_law_draws : Option Addr} {sl_law_draws : Array (Option Value)} {oc_law_draws kV_law_draws dc_law_draws pm_law_draws cd_law_draws ct_law_draws : Value} {f_law_draws : Addr}
    {od_law_name an_law_name : Option Addr} {sl_law_name : Array (Option Value)} {oc_law_name kV_law_name dc_law_name pm_law_name cd_law_name ct_law_name : Value} {f_law_name : Addr}
    {od_law_worth an_law_worth : Option Addr} {sl_law_worth : Array (Option Value)} {oc_law_worth kV_law_worth dc_law_worth pm_law_worth cd_law_worth ct_law_worth : Value} {f_law_worth : Addr}
    {od_law_names an_law_names : Option Addr} {sl_law_names : Array (Option Value)} {oc_law_names kV_law_names dc_law_names pm_law_names cd_law_names ct_law_names : Value} {f_law_names : Addr}
    {od_law_worths an_law_worths : Option Addr} {sl_law_worths : Array (Option Value)} {oc_law_worths kV_law_worths dc_law_worths pm_law_worths cd_law_worths ct_law_worths : Value} {f_law_worths : Addr}
    {od_law_labels an_law_labels : Option Addr} {sl_law_labels : Array (Option Value)} {oc_law_labels kV_law_labels dc_law_labels pm_law_labels cd_law_labels ct_law_labels : Value} {f_law_labels : Addr}
    {od_law_number an_law_number : Option Addr} {sl_law_number : Array (Option Value)} {oc_law_number kV_law_number dc_law_number pm_law_number cd_law_number ct_law_number : Value} {f_law_number : Addr}
    {od_law_block an_law_block : Option Addr} {sl_law_block : Array (Option Value)} {oc_law_block kV_law_block dc_law_block pm_law_block cd_law_block ct_law_block : Value} {f_law_block : Addr}
    {od_law_series an_law_series : Option Addr} {sl_law_series : Array (Option Value)} {oc_law_series kV_law_series dc_law_series pm_law_series cd_law_series ct_law_series : Value} {f_law_series : Addr}
    {od_law_groups an_law_groups : Option Addr} {sl_law_groups : Array (Option Value)} {oc_law_groups kV_law_groups dc_law_groups pm_law_groups cd_law_groups ct_law_groups : Value} {f_law_groups : Addr}
    {od_law_letters an_law_letters : Option Addr} {sl_law_letters : Array (Option Value)} {oc_law_letters kV_law_letters dc_law_letters pm_law_letters cd_law_letters ct_law_letters : Value} {f_law_letters : Addr}
    {od_law_labels_bytes an_law_labels_bytes : Option Addr} {sl_law_labels_bytes : Array (Option Value)} {oc_law_labels_bytes kV_law_labels_bytes dc_law_labels_bytes pm_law_labels_bytes cd_law_labels_bytes ct_law_labels_bytes : Value} {f_law_labels_bytes : Addr}
    {od_law_integer_bytes an_law_integer_bytes : Option Addr} {sl_law_integer_bytes : Array (Option Value)} {oc_law_integer_bytes kV_law_integer_bytes dc_law_integer_bytes pm_law_integer_bytes cd_law_integer_bytes ct_law_integer_bytes : Value} {f_law_integer_bytes : Addr}
    {od_law_block_bytes an_law_block_bytes : Option Addr} {sl_law_block_bytes : Array (Option Value)} {oc_law_block_bytes kV_law_block_bytes dc_law_block_bytes pm_law_block_bytes cd_law_block_bytes ct_law_block_bytes : Value} {f_law_block_bytes : Addr}
    {od_law an_law : Option Addr} {sl_law : Array (Option Value)} {oc_law kV_law dc_law pm_law cd_law ct_law : Value} {f_law : Addr} {t_LAST_TIME : Tok} {t_LETTERS : Tok} {t_MOST_CHARS : Tok} {t_MOST_LABELS : Tok} {t_VALUE_BOUND : Tok} {t_WORD_CHARS : Tok}
    (a_is_value : PySem.W.nsIn K mainGlobals "is_value" = some (some (.ref f_is_value))) (l_is_value : K.lookup f_is_value = some ⟨oc_is_value, od_is_value, .func (PySem.W.fnOf "is_value" "is_value" (defArgs s_is_value) (defBody s_is_value) (defScope s_is_value) .none kV_is_value dc_is_value pm_is_value an_is_value cd_is_value ct_is_value), sl_is_value⟩) (c_is_value : PySem.W.codeIn K cd_is_value "is_value" = true) (k_is_value : PySem.W.keepIn K (.ref f_is_value) = true)
    (a_is_name : PySem.W.nsIn K mainGlobals "is_name" = some (some (.ref f_is_name))) (l_is_name : K.lookup f_is_name = some ⟨oc_is_name, od_is_name, .func (PySem.W.fnOf "is_name" "is_name" (defArgs s_is_name) (defBody s_is_name) (defScope s_is_name) .none kV_is_name dc_is_name pm_is_name an_is_name cd_is_name ct_is_name), sl_is_name⟩) (c_is_name : PySem.W.codeIn K cd_is_name "is_name" = true) (k_is_name : PySem.W.keepIn K (.ref f_is_name) = true)
    (a_put_number : PySem.W.nsIn K mainGlobals "put_number" = some (some (.ref f_put_number))) (l_put_number : K.lookup f_put_number = some ⟨oc_put_number, od_put_number, .func (PySem.W.fnOf "put_number" "put_number" (defArgs s_put_number) (defBody s_put_number) (defScope s_put_number) .none kV_put_number dc_put_number pm_put_number an_put_number cd_put_number ct_put_number), sl_put_number⟩) (c_put_number : PySem.W.codeIn K cd_put_number "put_number" = true) (k_put_number : PySem.W.keepIn K (.ref f_put_number) = true)
    (a_put_integer : PySem.W.nsIn K mainGlobals "put_integer" = some (some (.ref f_put_integer))) (l_put_integer : K.lookup f_put_integer = some ⟨oc_put_integer, od_put_integer, .func (PySem.W.fnOf "put_integer" "put_integer" (defArgs s_put_integer) (defBody s_put_integer) (defScope s_put_integer) .none kV_put_integer dc_put_integer pm_put_integer an_put_integer cd_put_integer ct_put_integer), sl_put_integer⟩) (c_put_integer : PySem.W.codeIn K cd_put_integer "put_integer" = true) (k_put_integer : PySem.W.keepIn K (.ref f_put_integer) = true)
    (a_put_text : PySem.W.nsIn K mainGlobals "put_text" = some (some (.ref f_put_text))) (l_put_text : K.lookup f_put_text = some ⟨oc_put_text, od_put_text, .func (PySem.W.fnOf "put_text" "put_text" (defArgs s_put_text) (defBody s_put_text) (defScope s_put_text) .none kV_put_text dc_put_text pm_put_text an_put_text cd_put_text ct_put_text), sl_put_text⟩) (c_put_text : PySem.W.codeIn K cd_put_text "put_text" = true) (k_put_text : PySem.W.keepIn K (.ref f_put_text) = true)
    (a_put_labels : PySem.W.nsIn K mainGlobals "put_labels" = some (some (.ref f_put_labels))) (l_put_labels : K.lookup f_put_labels = some ⟨oc_put_labels, od_put_labels, .func (PySem.W.fnOf "put_labels" "put_labels" (defArgs s_put_labels) (defBody s_put_labels) (defScope s_put_labels) .none kV_put_labels dc_put_labels pm_put_labels an_put_labels cd_put_labels ct_put_labels), sl_put_labels⟩) (c_put_labels : PySem.W.codeIn K cd_put_labels "put_labels" = true) (k_put_labels : PySem.W.keepIn K (.ref f_put_labels) = true)
    (a_take_number : PySem.W.nsIn K mainGlobals "take_number" = some (some (.ref f_take_number))) (l_take_number : K.lookup f_take_number = some ⟨oc_take_number, od_take_number, .func (PySem.W.fnOf "take_number" "take_number" (defArgs s_take_number) (defBody s_take_number) (defScope s_take_number) .none kV_take_number dc_take_number pm_take_number an_take_number cd_take_number ct_take_number), sl_take_number⟩) (c_take_number : PySem.W.codeIn K cd_take_number "take_number" = true) (k_take_number : PySem.W.keepIn K (.ref f_take_number) = true)
    (a_take_integer : PySem.W.nsIn K mainGlobals "take_integer" = some (some (.ref f_take_integer))) (l_take_integer : K.lookup f_take_integer = some ⟨oc_take_integer, od_take_integer, .func (PySem.W.fnOf "take_integer" "take_integer" (defArgs s_take_integer) (defBody s_take_integer) (defScope s_take_integer) .none kV_take_integer dc_take_integer pm_take_integer an_take_integer cd_take_integer ct_take_integer), sl_take_integer⟩) (c_take_integer : PySem.W.codeIn K cd_take_integer "take_integer" = true) (k_take_integer : PySem.W.keepIn K (.ref f_take_integer) = true)
    (a_char_at : PySem.W.nsIn K mainGlobals "char_at" = some (some (.ref f_char_at))) (l_char_at : K.lookup f_char_at = some ⟨oc_char_at, od_char_at, .func (PySem.W.fnOf "char_at" "char_at" (defArgs s_char_at) (defBody s_char_at) (defScope s_char_at) .none kV_char_at dc_char_at pm_char_at an_char_at cd_char_at ct_char_at), sl_char_at⟩) (c_char_at : PySem.W.codeIn K cd_char_at "char_at" = true) (k_char_at : PySem.W.keepIn K (.ref f_char_at) = true)
    (a_take_text : PySem.W.nsIn K mainGlobals "take_text" = some (some (.ref f_take_text))) (l_take_text : K.lookup f_take_text = some ⟨oc_take_text, od_take_text, .func (PySem.W.fnOf "take_text" "take_text" (defArgs s_take_text) (defBody s_take_text) (defScope s_take_text) .none kV_take_text dc_take_text pm_take_text an_take_text cd_take_text ct_take_text), sl_take_text⟩) (c_take_text : PySem.W.codeIn K cd_take_text "take_text" = true) (k_take_text : PySem.W.keepIn K (.ref f_take_text) = true)
    (a_take_labels : PySem.W.nsIn K mainGlobals "take_labels" = some (some (.ref f_take_labels))) (l_take_labels : K.lookup f_take_labels = some ⟨oc_take_labels, od_take_labels, .func (PySem.W.fnOf "take_labels" "take_labels" (defArgs s_take_labels) (defBody s_take_labels) (defScope s_take_labels) .none kV_take_labels dc_take_labels pm_take_labels an_take_labels cd_take_labels ct_take_labels), sl_take_labels⟩) (c_take_labels : PySem.W.codeIn K cd_take_labels "take_labels" = true) (k_take_labels : PySem.W.keepIn K (.ref f_take_labels) = true)
    (a_are_plain_labels : PySem.W.nsIn K mainGlobals "are_plain_labels" = some (some (.ref f_are_plain_labels))) (l_are_plain_labels : K.lookup f_are_plain_labels = some ⟨oc_are_plain_labels, od_are_plain_labels, .func (PySem.W.fnOf "are_plain_labels" "are_plain_labels" (defArgs s_are_plain_labels) (defBody s_are_plain_labels) (defScope s_are_plain_labels) .none kV_are_plain_labels dc_are_plain_labels pm_are_plain_labels an_are_plain_labels cd_are_plain_labels ct_are_plain_labels), sl_are_plain_labels⟩) (c_are_plain_labels : PySem.W.codeIn K cd_are_plain_labels "are_plain_labels" = true) (k_are_plain_labels : PySem.W.keepIn K (.ref f_are_plain_labels) = true)
    (a_is_plain : PySem.W.nsIn K mainGlobals "is_plain" = some (some (.ref f_is_plain))) (l_is_plain : K.lookup f_is_plain = some ⟨oc_is_plain, od_is_plain, .func (PySem.W.fnOf "is_plain" "is_plain" (defArgs s_is_plain) (defBody s_is_plain) (defScope s_is_plain) .none kV_is_plain dc_is_plain pm_is_plain an_is_plain cd_is_plain ct_is_plain), sl_is_plain⟩) (c_is_plain : PySem.W.codeIn K cd_is_plain "is_plain" = true) (k_is_plain : PySem.W.keepIn K (.ref f_is_plain) = true)
    (a_series_of : PySem.W.nsIn K mainGlobals "series_of" = some (some (.ref f_series_of))) (l_series_of : K.lookup f_series_of = some ⟨oc_series_of, od_series_of, .func (PySem.W.fnOf "series_of" "series_of" (defArgs s_series_of) (defBody s_series_of) (defScope s_series_of) .none kV_series_of dc_series_of pm_series_of an_series_of cd_series_of ct_series_of), sl_series_of⟩) (c_series_of : PySem.W.codeIn K cd_series_of "series_of" = true) (k_series_of : PySem.W.keepIn K (.ref f_series_of) = true)
    (a_spread : PySem.W.nsIn K mainGlobals "spread" = some (some (.ref f_spread))) (l_spread : K.lookup f_spread = some ⟨oc_spread, od_spread, .func (PySem.W.fnOf "spread" "spread" (defArgs s_spread) (defBody s_spread) (defScope s_spread) .none kV_spread dc_spread pm_spread an_spread cd_spread ct_spread), sl_spread⟩) (c_spread : PySem.W.codeIn K cd_spread "spread" = true) (k_spread : PySem.W.keepIn K (.ref f_spread) = true)
    (a_put_points : PySem.W.nsIn K mainGlobals "put_points" = some (some (.ref f_put_points))) (l_put_points : K.lookup f_put_points = some ⟨oc_put_points, od_put_points, .func (PySem.W.fnOf "put_points" "put_points" (defArgs s_put_points) (defBody s_put_points) (defScope s_put_points) .none kV_put_points dc_put_points pm_put_points an_put_points cd_put_points ct_put_points), sl_put_points⟩) (c_put_points : PySem.W.codeIn K cd_put_points "put_points" = true) (k_put_points : PySem.W.keepIn K (.ref f_put_points) = true)
    (a_put_block : PySem.W.nsIn K mainGlobals "put_block" = some (some (.ref f_put_block))) (l_put_block : K.lookup f_put_block = some ⟨oc_put_block, od_put_block, .func (PySem.W.fnOf "put_block" "put_block" (defArgs s_put_block) (defBody s_put_block) (defScope s_put_block) .none kV_put_block dc_put_block pm_put_block an_put_block cd_put_block ct_put_block), sl_put_block⟩) (c_put_block : PySem.W.codeIn K cd_put_block "put_block" = true) (k_put_block : PySem.W.keepIn K (.ref f_put_block) = true)
    (a_take_points : PySem.W.nsIn K mainGlobals "take_points" = some (some (.ref f_take_points))) (l_take_points : K.lookup f_take_points = some ⟨oc_take_points, od_take_points, .func (PySem.W.fnOf "take_points" "take_points" (defArgs s_take_points) (defBody s_take_points) (defScope s_take_points) .none kV_take_points dc_take_points pm_take_points an_take_points cd_take_points ct_take_points), sl_take_points⟩) (c_take_points : PySem.W.codeIn K cd_take_points "take_points" = true) (k_take_points : PySem.W.keepIn K (.ref f_take_points) = true)
    (a_take_series : PySem.W.nsIn K mainGlobals "take_series" = some (some (.ref f_take_series))) (l_take_series : K.lookup f_take_series = some ⟨oc_take_series, od_take_series, .func (PySem.W.fnOf "take_series" "take_series" (defArgs s_take_series) (defBody s_take_series) (defScope s_take_series) .none kV_take_series dc_take_series pm_take_series an_take_series cd_take_series ct_take_series), sl_take_series⟩) (c_take_series : PySem.W.codeIn K cd_take_series "take_series" = true) (k_take_series : PySem.W.keepIn K (.ref f_take_series) = true)
    (a_take_all_series : PySem.W.nsIn K mainGlobals "take_all_series" = some (some (.ref f_take_all_series))) (l_take_all_series : K.lookup f_take_all_series = some ⟨oc_take_all_series, od_take_all_series, .func (PySem.W.fnOf "take_all_series" "take_all_series" (defArgs s_take_all_series) (defBody s_take_all_series) (defScope s_take_all_series) .none kV_take_all_series dc_take_all_series pm_take_all_series an_take_all_series cd_take_all_series ct_take_all_series), sl_take_all_series⟩) (c_take_all_series : PySem.W.codeIn K cd_take_all_series "take_all_series" = true) (k_take_all_series : PySem.W.keepIn K (.ref f_take_all_series) = true)
    (a_is_block : PySem.W.nsIn K mainGlobals "is_block" = some (some (.ref f_is_block))) (l_is_block : K.lookup f_is_block = some ⟨oc_is_block, od_is_block, .func (PySem.W.fnOf "is_block" "is_block" (defArgs s_is_block) (defBody s_is_block) (defScope s_is_block) .none kV_is_block dc_is_block pm_is_block an_is_block cd_is_block ct_is_block), sl_is_block⟩) (c_is_block : PySem.W.codeIn K cd_is_block "is_block" = true) (k_is_block : PySem.W.keepIn K (.ref f_is_block) = true)
    (a_take_block : PySem.W.nsIn K mainGlobals "take_block" = some (some (.ref f_take_block))) (l_take_block : K.lookup f_take_block = some ⟨oc_take_block, od_take_block, .func (PySem.W.fnOf "take_block" "take_block" (defArgs s_take_block) (defBody s_take_block) (defScope s_take_block) .none kV_take_block dc_take_block pm_take_block an_take_block cd_take_block ct_take_block), sl_take_block⟩) (c_take_block : PySem.W.codeIn K cd_take_block "take_block" = true) (k_take_block : PySem.W.keepIn K (.ref f_take_block) = true)
    (a_block_of : PySem.W.nsIn K mainGlobals "block_of" = some (some (.ref f_block_of))) (l_block_of : K.lookup f_block_of = some ⟨oc_block_of, od_block_of, .func (PySem.W.fnOf "block_of" "block_of" (defArgs s_block_of) (defBody s_block_of) (defScope s_block_of) .none kV_block_of dc_block_of pm_block_of an_block_of cd_block_of ct_block_of), sl_block_of⟩) (c_block_of : PySem.W.codeIn K cd_block_of "block_of" = true) (k_block_of : PySem.W.keepIn K (.ref f_block_of) = true)
    (a_samples_of : PySem.W.nsIn K mainGlobals "samples_of" = some (some (.ref f_samples_of))) (l_samples_of : K.lookup f_samples_of = some ⟨oc_samples_of, od_samples_of, .func (PySem.W.fnOf "samples_of" "samples_of" (defArgs s_samples_of) (defBody s_samples_of) (defScope s_samples_of) .none kV_samples_of dc_samples_of pm_samples_of an_samples_of cd_samples_of ct_samples_of), sl_samples_of⟩) (c_samples_of : PySem.W.codeIn K cd_samples_of "samples_of" = true) (k_samples_of : PySem.W.keepIn K (.ref f_samples_of) = true)
    (a_law_cell : PySem.W.nsIn K mainGlobals "_law_cell" = some (some (.ref f_law_cell))) (l_law_cell : K.lookup f_law_cell = some ⟨oc_law_cell, od_law_cell, .func (PySem.W.fnOf "_law_cell" "_law_cell" (defArgs s_law_cell) (defBody s_law_cell) (defScope s_law_cell) .none kV_law_cell dc_law_cell pm_law_cell an_law_cell cd_law_cell ct_law_cell), sl_law_cell⟩) (c_law_cell : PySem.W.codeIn K cd_law_cell "_law_cell" = true) (k_law_cell : PySem.W.keepIn K (.ref f_law_cell) = true)
    (a_law_draws : PySem.W.nsIn K mainGlobals "_law_draws" = some (some (.ref f_law_draws))) (l_law_draws : K.lookup f_law_draws = some ⟨oc_law_draws, od_law_draws, .func (PySem.W.fnOf "_law_draws" "_law_draws" (defArgs s_law_draws) (defBody s_law_draws) (defScope s_law_draws) .none kV_law_draws dc_law_draws pm_law_draws an_law_draws cd_law_draws ct_law_draws), sl_law_draws⟩) (c_law_draws : PySem.W.codeIn K cd_law_draws "_law_draws" = true) (k_law_draws : PySem.W.keepIn K (.ref f_law_draws) = true)
    (a_law_name : PySem.W.nsIn K mainGlobals "_law_name" = some (some (.ref f_law_name))) (l_law_name : K.lookup f_law_name = some ⟨oc_law_name, od_law_name, .func (PySem.W.fnOf "_law_name" "_law_name" (defArgs s_law_name) (defBody s_law_name) (defScope s_law_name) .none kV_law_name dc_law_name pm_law_name an_law_name cd_law_name ct_law_name), sl_law_name⟩) (c_law_name : PySem.W.codeIn K cd_law_name "_law_name" = true) (k_law_name : PySem.W.keepIn K (.ref f_law_name) = true)
    (a_law_worth : PySem.W.nsIn K mainGlobals "_law_worth" = some (some (.ref f_law_worth))) (l_law_worth : K.lookup f_law_worth = some ⟨oc_law_worth, od_law_worth, .func (PySem.W.fnOf "_law_worth" "_law_worth" (defArgs s_law_worth) (defBody s_law_worth) (defScope s_law_worth) .none kV_law_worth dc_law_worth pm_law_worth an_law_worth cd_law_worth ct_law_worth), sl_law_worth⟩) (c_law_worth : PySem.W.codeIn K cd_law_worth "_law_worth" = true) (k_law_worth : PySem.W.keepIn K (.ref f_law_worth) = true)
    (a_law_names : PySem.W.nsIn K mainGlobals "_law_names" = some (some (.ref f_law_names))) (l_law_names : K.lookup f_law_names = some ⟨oc_law_names, od_law_names, .func (PySem.W.fnOf "_law_names" "_law_names" (defArgs s_law_names) (defBody s_law_names) (defScope s_law_names) .none kV_law_names dc_law_names pm_law_names an_law_names cd_law_names ct_law_names), sl_law_names⟩) (c_law_names : PySem.W.codeIn K cd_law_names "_law_names" = true) (k_law_names : PySem.W.keepIn K (.ref f_law_names) = true)
    (a_law_worths : PySem.W.nsIn K mainGlobals "_law_worths" = some (some (.ref f_law_worths))) (l_law_worths : K.lookup f_law_worths = some ⟨oc_law_worths, od_law_worths, .func (PySem.W.fnOf "_law_worths" "_law_worths" (defArgs s_law_worths) (defBody s_law_worths) (defScope s_law_worths) .none kV_law_worths dc_law_worths pm_law_worths an_law_worths cd_law_worths ct_law_worths), sl_law_worths⟩) (c_law_worths : PySem.W.codeIn K cd_law_worths "_law_worths" = true) (k_law_worths : PySem.W.keepIn K (.ref f_law_worths) = true)
    (a_law_labels : PySem.W.nsIn K mainGlobals "_law_labels" = some (some (.ref f_law_labels))) (l_law_labels : K.lookup f_law_labels = some ⟨oc_law_labels, od_law_labels, .func (PySem.W.fnOf "_law_labels" "_law_labels" (defArgs s_law_labels) (defBody s_law_labels) (defScope s_law_labels) .none kV_law_labels dc_law_labels pm_law_labels an_law_labels cd_law_labels ct_law_labels), sl_law_labels⟩) (c_law_labels : PySem.W.codeIn K cd_law_labels "_law_labels" = true) (k_law_labels : PySem.W.keepIn K (.ref f_law_labels) = true)
    (a_law_number : PySem.W.nsIn K mainGlobals "_law_number" = some (some (.ref f_law_number))) (l_law_number : K.lookup f_law_number = some ⟨oc_law_number, od_law_number, .func (PySem.W.fnOf "_law_number" "_law_number" (defArgs s_law_number) (defBody s_law_number) (defScope s_law_number) .none kV_law_number dc_law_number pm_law_number an_law_number cd_law_number ct_law_number), sl_law_number⟩) (c_law_number : PySem.W.codeIn K cd_law_number "_law_number" = true) (k_law_number : PySem.W.keepIn K (.ref f_law_number) = true)
    (a_law_block : PySem.W.nsIn K mainGlobals "_law_block" = some (some (.ref f_law_block))) (l_law_block : K.lookup f_law_block = some ⟨oc_law_block, od_law_block, .func (PySem.W.fnOf "_law_block" "_law_block" (defArgs s_law_block) (defBody s_law_block) (defScope s_law_block) .none kV_law_block dc_law_block pm_law_block an_law_block cd_law_block ct_law_block), sl_law_block⟩) (c_law_block : PySem.W.codeIn K cd_law_block "_law_block" = true) (k_law_block : PySem.W.keepIn K (.ref f_law_block) = true)
    (a_law_series : PySem.W.nsIn K mainGlobals "_law_series" = some (some (.ref f_law_series))) (l_law_series : K.lookup f_law_series = some ⟨oc_law_series, od_law_series, .func (PySem.W.fnOf "_law_series" "_law_series" (defArgs s_law_series) (defBody s_law_series) (defScope s_law_series) .none kV_law_series dc_law_series pm_law_series an_law_series cd_law_series ct_law_series), sl_law_series⟩) (c_law_series : PySem.W.codeIn K cd_law_series "_law_series" = true) (k_law_series : PySem.W.keepIn K (.ref f_law_series) = true)
    (a_law_groups : PySem.W.nsIn K mainGlobals "_law_groups" = some (some (.ref f_law_groups))) (l_law_groups : K.lookup f_law_groups = some ⟨oc_law_groups, od_law_groups, .func (PySem.W.fnOf "_law_groups" "_law_groups" (defArgs s_law_groups) (defBody s_law_groups) (defScope s_law_groups) .none kV_law_groups dc_law_groups pm_law_groups an_law_groups cd_law_groups ct_law_groups), sl_law_groups⟩) (c_law_groups : PySem.W.codeIn K cd_law_groups "_law_groups" = true) (k_law_groups : PySem.W.keepIn K (.ref f_law_groups) = true)
    (a_law_letters : PySem.W.nsIn K mainGlobals "_law_letters" = some (some (.ref f_law_letters))) (l_law_letters : K.lookup f_law_letters = some ⟨oc_law_letters, od_law_letters, .func (PySem.W.fnOf "_law_letters" "_law_letters" (defArgs s_law_letters) (defBody s_law_letters) (defScope s_law_letters) .none kV_law_letters dc_law_letters pm_law_letters an_law_letters cd_law_letters ct_law_letters), sl_law_letters⟩) (c_law_letters : PySem.W.codeIn K cd_law_letters "_law_letters" = true) (k_law_letters : PySem.W.keepIn K (.ref f_law_letters) = true)
    (a_law_labels_bytes : PySem.W.nsIn K mainGlobals "_law_labels_bytes" = some (some (.ref f_law_labels_bytes))) (l_law_labels_bytes : K.lookup f_law_labels_bytes = some ⟨oc_law_labels_bytes, od_law_labels_bytes, .func (PySem.W.fnOf "_law_labels_bytes" "_law_labels_bytes" (defArgs s_law_labels_bytes) (defBody s_law_labels_bytes) (defScope s_law_labels_bytes) .none kV_law_labels_bytes dc_law_labels_bytes pm_law_labels_bytes an_law_labels_bytes cd_law_labels_bytes ct_law_labels_bytes), sl_law_labels_bytes⟩) (c_law_labels_bytes : PySem.W.codeIn K cd_law_labels_bytes "_law_labels_bytes" = true) (k_law_labels_bytes : PySem.W.keepIn K (.ref f_law_labels_bytes) = true)
    (a_law_integer_bytes : PySem.W.nsIn K mainGlobals "_law_integer_bytes" = some (some (.ref f_law_integer_bytes))) (l_law_integer_bytes : K.lookup f_law_integer_bytes = some ⟨oc_law_integer_bytes, od_law_integer_bytes, .func (PySem.W.fnOf "_law_integer_bytes" "_law_integer_bytes" (defArgs s_law_integer_bytes) (defBody s_law_integer_bytes) (defScope s_law_integer_bytes) .none kV_law_integer_bytes dc_law_integer_bytes pm_law_integer_bytes an_law_integer_bytes cd_law_integer_bytes ct_law_integer_bytes), sl_law_integer_bytes⟩) (c_law_integer_bytes : PySem.W.codeIn K cd_law_integer_bytes "_law_integer_bytes" = true) (k_law_integer_bytes : PySem.W.keepIn K (.ref f_law_integer_bytes) = true)
    (a_law_block_bytes : PySem.W.nsIn K mainGlobals "_law_block_bytes" = some (some (.ref f_law_block_bytes))) (l_law_block_bytes : K.lookup f_law_block_bytes = some ⟨oc_law_block_bytes, od_law_block_bytes, .func (PySem.W.fnOf "_law_block_bytes" "_law_block_bytes" (defArgs s_law_block_bytes) (defBody s_law_block_bytes) (defScope s_law_block_bytes) .none kV_law_block_bytes dc_law_block_bytes pm_law_block_bytes an_law_block_bytes cd_law_block_bytes ct_law_block_bytes), sl_law_block_bytes⟩) (c_law_block_bytes : PySem.W.codeIn K cd_law_block_bytes "_law_block_bytes" = true) (k_law_block_bytes : PySem.W.keepIn K (.ref f_law_block_bytes) = true)
    (a_law : PySem.W.nsIn K mainGlobals "law" = some (some (.ref f_law))) (l_law : K.lookup f_law = some ⟨oc_law, od_law, .func (PySem.W.fnOf "law" "law" (defArgs s_law) (defBody s_law) (defScope s_law) .none kV_law dc_law pm_law an_law cd_law ct_law), sl_law⟩) (c_law : PySem.W.codeIn K cd_law "law" = true) (k_law : PySem.W.keepIn K (.ref f_law) = true)
    (v_LAST_TIME : PySem.W.nsIn K mainGlobals "LAST_TIME" = some (some (.int 10000 t_LAST_TIME)))
    (v_LETTERS : PySem.W.nsIn K mainGlobals "LETTERS" = some (some (.str "abcdefghijklmnopqrstuvwxyz" t_LETTERS)))
    (v_MOST_CHARS : PySem.W.nsIn K mainGlobals "MOST_CHARS" = some (some (.int 20 t_MOST_CHARS)))
    (v_MOST_LABELS : PySem.W.nsIn K mainGlobals "MOST_LABELS" = some (some (.int 6 t_MOST_LABELS)))
    (v_VALUE_BOUND : PySem.W.nsIn K mainGlobals "VALUE_BOUND" = some (some (.int 1000000000000000 t_VALUE_BOUND)))
    (v_WORD_CHARS : PySem.W.nsIn K mainGlobals "WORD_CHARS" = some (some (.str "abcdefghijklmnopqrstuvwxyz0123456789_" t_WORD_CHARS)))
    (xg_NotABlock : PySem.W.nsIn K mainGlobals "NotABlock" = some (some (.ref A_NotABlock)))
    (xb_NotABlock : PySem.W.subIn K (.ref A_NotABlock) (.type "BaseException") = some true)
    (xt_NotABlock : PySem.W.typeIn K (.ref A_NotABlock) = some (.type "type"))
    (xd_NotABlock : PySem.W.hasDictIn K A_NotABlock = true)
    (xe_NotABlock : PySem.W.excIn K A_NotABlock [.type "ValueError", .type "Exception", .type "BaseException", .type "object"] "ValueError.__new__" = true)
    (xk_NotABlock : PySem.W.keepIn K (.ref A_NotABlock) = true)
    (z_abs : PySem.W.nsIn K mainGlobals "abs" = some none)
    (z_enumerate : PySem.W.nsIn K mainGlobals "enumerate" = some none)
    (z_int : PySem.W.nsIn K mainGlobals "int" = some none)
    (z_isinstance : PySem.W.nsIn K mainGlobals "isinstance" = some none)
    (z_len : PySem.W.nsIn K mainGlobals "len" = some none)
    (z_list : PySem.W.nsIn K mainGlobals "list" = some none)
    (z_min : PySem.W.nsIn K mainGlobals "min" = some none)
    (z_ord : PySem.W.nsIn K mainGlobals "ord" = some none)
    (z_range : PySem.W.nsIn K mainGlobals "range" = some none)
    (z_sorted : PySem.W.nsIn K mainGlobals "sorted" = some none)
    (z_tuple : PySem.W.nsIn K mainGlobals "tuple" = some none) :
    ∃ fd : FuncData, (∀ (s : Shared) (v : Value), BindsTo s fd ⟨[v], []⟩ [("_law_script", v)]) ∧ ∀ base : Heap, K.In base → base.Ns mainGlobals mg → FnOk l.prog w K mg base (L2.CX l.prog w) 7 fa fd ["_law_script"] (spL K 1 law_f) := by
  have e := hfa.symm.trans (PySem.W.mg_of X G a_law)
  cases e
  let cm : Nat → Addr × List Str := fun n => match n with | 0 => (A_NotABlock, []) | _ => (0, [])
  have Bz : Bl K mg cm A_NotABlock := ⟨PySem.W.mg_none_of X G z_abs, PySem.W.mg_none_of X G z_enumerate, PySem.W.mg_none_of X G z_int, PySem.W.mg_none_of X G z_isinstance, PySem.W.mg_none_of X G z_len, PySem.W.mg_none_of X G z_list, PySem.W.mg_none_of X G z_min, PySem.W.mg_none_of X G z_ord, PySem.W.mg_none_of X G z_range, PySem.W.mg_none_of X G z_sorted, PySem.W.mg_none_of X G z_tuple, rfl, ⟨PySem.W.mg_of X G xg_NotABlock, xe_NotABlock, xk_NotABlock, xb_NotABlock, xt_NotABlock⟩, PySem.W.mg_of X G xg_NotABlock⟩
  have F_is_value := fun_mk (st := s_is_value) l_is_value c_is_value k_is_value
  have T_is_value : Fn K mg "is_value" s_is_value ["text"] _ _ := ⟨F_is_value, F_is_value.binds (ps := ["text"]) fun _ _ _ _ _ _ us hl => match us, hl with | [_], _ => rfl, PySem.W.mg_of X G a_is_value⟩
  have F_is_name := fun_mk (st := s_is_name) l_is_name c_is_name k_is_name
  have T_is_name : Fn K mg "is_name" s_is_name ["text"] _ _ := ⟨F_is_name, F_is_name.binds (ps := ["text"]) fun _ _ _ _ _ _ us hl => match us, hl with | [_], _ => rfl, PySem.W.mg_of X G a_is_name⟩
  have F_put_number := fun_mk (st := s_put_number) l_put_number c_put_number k_put_number
  have T_put_number : Fn K mg "put_number" s_put_number ["n"] _ _ := ⟨F_put_number, F_put_number.binds (ps := ["n"]) fun _ _ _ _ _ _ us hl => match us, hl with | [_], _ => rfl, PySem.W.mg_of X G a_put_number⟩
  have F_put_integer := fun_mk (st := s_put_integer) l_put_integer c_put_integer k_put_integer
  have T_put_integer : Fn K mg "put_integer" s_put_integer ["n"] _ _ := ⟨F_put_integer, F_put_integer.binds (ps := ["n"]) fun _ _ _ _ _ _ us hl => match us, hl with | [_], _ => rfl, PySem.W.mg_of X G a_put_integer⟩
  have F_put_text := fun_mk (st := s_put_text) l_put_text c_put_text k_put_text
  have T_put_text : Fn K mg "put_text" s_put_text ["text"] _ _ := ⟨F_put_text, F_put_text.binds (ps := ["text"]) fun _ _ _ _ _ _ us hl => match us, hl with | [_], _ => rfl, PySem.W.mg_of X G a_put_text⟩
  have F_put_labels := fun_mk (st := s_put_labels) l_put_labels c_put_labels k_put_labels
  have T_put_labels : Fn K mg "put_labels" s_put_labels ["labels"] _ _ := ⟨F_put_labels, F_put_labels.binds (ps := ["labels"]) fun _ _ _ _ _ _ us hl => match us, hl with | [_], _ => rfl, PySem.W.mg_of X G a_put_labels⟩
  have F_take_number := fun_mk (st := s_take_number) l_take_number c_take_number k_take_number
  have T_take_number : Fn K mg "take_number" s_take_number ["data", "at"] _ _ := ⟨F_take_number, F_take_number.binds (ps := ["data", "at"]) fun _ _ _ _ _ _ us hl => match us, hl with | [_, _], _ => rfl, PySem.W.mg_of X G a_take_number⟩
  have F_take_integer := fun_mk (st := s_take_integer) l_take_integer c_take_integer k_take_integer
  have T_take_integer : Fn K mg "take_integer" s_take_integer ["data", "at"] _ _ := ⟨F_take_integer, F_take_integer.binds (ps := ["data", "at"]) fun _ _ _ _ _ _ us hl => match us, hl with | [_, _], _ => rfl, PySem.W.mg_of X G a_take_integer⟩
  have F_char_at := fun_mk (st := s_char_at) l_char_at c_char_at k_char_at
  have T_char_at : Fn K mg "char_at" s_char_at ["place"] _ _ := ⟨F_char_at, F_char_at.binds (ps := ["place"]) fun _ _ _ _ _ _ us hl => match us, hl with | [_], _ => rfl, PySem.W.mg_of X G a_char_at⟩
  have F_take_text := fun_mk (st := s_take_text) l_take_text c_take_text k_take_text
  have T_take_text : Fn K mg "take_text" s_take_text ["data", "at"] _ _ := ⟨F_take_text, F_take_text.binds (ps := ["data", "at"]) fun _ _ _ _ _ _ us hl => match us, hl with | [_, _], _ => rfl, PySem.W.mg_of X G a_take_text⟩
  have F_take_labels := fun_mk (st := s_take_labels) l_take_labels c_take_labels k_take_labels
  have T_take_labels : Fn K mg "take_labels" s_take_labels ["data", "at"] _ _ := ⟨F_take_labels, F_take_labels.binds (ps := ["data", "at"]) fun _ _ _ _ _ _ us hl => match us, hl with | [_, _], _ => rfl, PySem.W.mg_of X G a_take_labels⟩
  have F_are_plain_labels := fun_mk (st := s_are_plain_labels) l_are_plain_labels c_are_plain_labels k_are_plain_labels
  have T_are_plain_labels : Fn K mg "are_plain_labels" s_are_plain_labels ["labels"] _ _ := ⟨F_are_plain_labels, F_are_plain_labels.binds (ps := ["labels"]) fun _ _ _ _ _ _ us hl => match us, hl with | [_], _ => rfl, PySem.W.mg_of X G a_are_plain_labels⟩
  have F_is_plain := fun_mk (st := s_is_plain) l_is_plain c_is_plain k_is_plain
  have T_is_plain : Fn K mg "is_plain" s_is_plain ["sample"] _ _ := ⟨F_is_plain, F_is_plain.binds (ps := ["sample"]) fun _ _ _ _ _ _ us hl => match us, hl with | [_], _ => rfl, PySem.W.mg_of X G a_is_plain⟩
  have F_series_of := fun_mk (st := s_series_of) l_series_of c_series_of k_series_of
  have T_series_of : Fn K mg "series_of" s_series_of ["view"] _ _ := ⟨F_series_of, F_series_of.binds (ps := ["view"]) fun _ _ _ _ _ _ us hl => match us, hl with | [_], _ => rfl, PySem.W.mg_of X G a_series_of⟩
  have F_spread := fun_mk (st := s_spread) l_spread c_spread k_spread
  have T_spread : Fn K mg "spread" s_spread ["series"] _ _ := ⟨F_spread, F_spread.binds (ps := ["series"]) fun _ _ _ _ _ _ us hl => match us, hl with | [_], _ => rfl, PySem.W.mg_of X G a_spread⟩
  have F_put_points := fun_mk (st := s_put_points) l_put_points c_put_points k_put_points
  have T_put_points : Fn K mg "put_points" s_put_points ["start", "points"] _ _ := ⟨F_put_points, F_put_points.binds (ps := ["start", "points"]) fun _ _ _ _ _ _ us hl => match us, hl with | [_, _], _ => rfl, PySem.W.mg_of X G a_put_points⟩
  have F_put_block := fun_mk (st := s_put_block) l_put_block c_put_block k_put_block
  have T_put_block : Fn K mg "put_block" s_put_block ["block"] _ _ := ⟨F_put_block, F_put_block.binds (ps := ["block"]) fun _ _ _ _ _ _ us hl => match us, hl with | [_], _ => rfl, PySem.W.mg_of X G a_put_block⟩
  have F_take_points := fun_mk (st := s_take_points) l_take_points c_take_points k_take_points
  have T_take_points : Fn K mg "take_points" s_take_points ["data", "at", "start", "many"] _ _ := ⟨F_take_points, F_take_points.binds (ps := ["data", "at", "start", "many"]) fun _ _ _ _ _ _ us hl => match us, hl with | [_, _, _, _], _ => rfl, PySem.W.mg_of X G a_take_points⟩
  have F_take_series := fun_mk (st := s_take_series) l_take_series c_take_series k_take_series
  have T_take_series : Fn K mg "take_series" s_take_series ["data", "at", "start"] _ _ := ⟨F_take_series, F_take_series.binds (ps := ["data", "at", "start"]) fun _ _ _ _ _ _ us hl => match us, hl with | [_, _, _], _ => rfl, PySem.W.mg_of X G a_take_series⟩
  have F_take_all_series := fun_mk (st := s_take_all_series) l_take_all_series c_take_all_series k_take_all_series
  have T_take_all_series : Fn K mg "take_all_series" s_take_all_series ["data", "at", "start"] _ _ := ⟨F_take_all_series, F_take_all_series.binds (ps := ["data", "at", "start"]) fun _ _ _ _ _ _ us hl => match us, hl with | [_, _, _], _ => rfl, PySem.W.mg_of X G a_take_all_series⟩
  have F_is_block := fun_mk (st := s_is_block) l_is_block c_is_block k_is_block
  have T_is_block : Fn K mg "is_block" s_is_block ["block"] _ _ := ⟨F_is_block, F_is_block.binds (ps := ["block"]) fun _ _ _ _ _ _ us hl => match us, hl with | [_], _ => rfl, PySem.W.mg_of X G a_is_block⟩
  have F_take_block := fun_mk (st := s_take_block) l_take_block c_take_block k_take_block
  have T_take_block : Fn K mg "take_block" s_take_block ["data"] _ _ := ⟨F_take_block, F_take_block.binds (ps := ["data"]) fun _ _ _ _ _ _ us hl => match us, hl with | [_], _ => rfl, PySem.W.mg_of X G a_take_block⟩
  have F_block_of := fun_mk (st := s_block_of) l_block_of c_block_of k_block_of
  have T_block_of : Fn K mg "block_of" s_block_of ["start", "width", "view"] _ _ := ⟨F_block_of, F_block_of.binds (ps := ["start", "width", "view"]) fun _ _ _ _ _ _ us hl => match us, hl with | [_, _, _], _ => rfl, PySem.W.mg_of X G a_block_of⟩
  have F_samples_of := fun_mk (st := s_samples_of) l_samples_of c_samples_of k_samples_of
  have T_samples_of : Fn K mg "samples_of" s_samples_of ["block"] _ _ := ⟨F_samples_of, F_samples_of.binds (ps := ["block"]) fun _ _ _ _ _ _ us hl => match us, hl with | [_], _ => rfl, PySem.W.mg_of X G a_samples_of⟩
  have F_law_cell := fun_mk (st := s_law_cell) l_law_cell c_law_cell k_law_cell
  have T_law_cell : Fn K mg "_law_cell" s_law_cell ["_law_script", "_law_k"] _ _ := ⟨F_law_cell, F_law_cell.binds (ps := ["_law_script", "_law_k"]) fun _ _ _ _ _ _ us hl => match us, hl with | [_, _], _ => rfl, PySem.W.mg_of X G a_law_cell⟩
  have F_law_draws := fun_mk (st := s_law_draws) l_law_draws c_law_draws k_law_draws
  have T_law_draws : Fn K mg "_law_draws" s_law_draws ["_law_cell_here", "_law_many"] _ _ := ⟨F_law_draws, F_law_draws.binds (ps := ["_law_cell_here", "_law_many"]) fun _ _ _ _ _ _ us hl => match us, hl with | [_, _], _ => rfl, PySem.W.mg_of X G a_law_draws⟩
  have F_law_name := fun_mk (st := s_law_name) l_law_name c_law_name k_law_name
  have T_law_name : Fn K mg "_law_name" s_law_name ["_law_first", "_law_second"] _ _ := ⟨F_law_name, F_law_name.binds (ps := ["_law_first", "_law_second"]) fun _ _ _ _ _ _ us hl => match us, hl with | [_, _], _ => rfl, PySem.W.mg_of X G a_law_name⟩
  have F_law_worth := fun_mk (st := s_law_worth) l_law_worth c_law_worth k_law_worth
  have T_law_worth : Fn K mg "_law_worth" s_law_worth ["_law_first", "_law_second"] _ _ := ⟨F_law_worth, F_law_worth.binds (ps := ["_law_first", "_law_second"]) fun _ _ _ _ _ _ us hl => match us, hl with | [_, _], _ => rfl, PySem.W.mg_of X G a_law_worth⟩
  have F_law_names := fun_mk (st := s_law_names) l_law_names c_law_names k_law_names
  have T_law_names : Fn K mg "_law_names" s_law_names ["_law_cell_here", "_law_many"] _ _ := ⟨F_law_names, F_law_names.binds (ps := ["_law_cell_here", "_law_many"]) fun _ _ _ _ _ _ us hl => match us, hl with | [_, _], _ => rfl, PySem.W.mg_of X G a_law_names⟩
  have F_law_worths := fun_mk (st := s_law_worths) l_law_worths c_law_worths k_law_worths
  have T_law_worths : Fn K mg "_law_worths" s_law_worths ["_law_cell_here", "_law_many"] _ _ := ⟨F_law_worths, F_law_worths.binds (ps := ["_law_cell_here", "_law_many"]) fun _ _ _ _ _ _ us hl => match us, hl with | [_, _], _ => rfl, PySem.W.mg_of X G a_law_worths⟩
  have F_law_labels := fun_mk (st := s_law_labels) l_law_labels c_law_labels k_law_labels
  have T_law_labels : Fn K mg "_law_labels" s_law_labels ["_law_draws_here", "_law_names_here", "_law_worths_here"] _ _ := ⟨F_law_labels, F_law_labels.binds (ps := ["_law_draws_here", "_law_names_here", "_law_worths_here"]) fun _ _ _ _ _ _ us hl => match us, hl with | [_, _, _], _ => rfl, PySem.W.mg_of X G a_law_labels⟩
  have F_law_number := fun_mk (st := s_law_number) l_law_number c_law_number k_law_number
  have T_law_number : Fn K mg "_law_number" s_law_number ["_law_first", "_law_second"] _ _ := ⟨F_law_number, F_law_number.binds (ps := ["_law_first", "_law_second"]) fun _ _ _ _ _ _ us hl => match us, hl with | [_, _], _ => rfl, PySem.W.mg_of X G a_law_number⟩
  have F_law_block := fun_mk (st := s_law_block) l_law_block c_law_block k_law_block
  have T_law_block : Fn K mg "_law_block" s_law_block ["_law_script", "_law_names_here", "_law_worths_here"] _ _ := ⟨F_law_block, F_law_block.binds (ps := ["_law_script", "_law_names_here", "_law_worths_here"]) fun _ _ _ _ _ _ us hl => match us, hl with | [_, _, _], _ => rfl, PySem.W.mg_of X G a_law_block⟩
  have F_law_series := fun_mk (st := s_law_series) l_law_series c_law_series k_law_series
  have T_law_series : Fn K mg "_law_series" s_law_series ["_law_samples"] _ _ := ⟨F_law_series, F_law_series.binds (ps := ["_law_samples"]) fun _ _ _ _ _ _ us hl => match us, hl with | [_], _ => rfl, PySem.W.mg_of X G a_law_series⟩
  have F_law_groups := fun_mk (st := s_law_groups) l_law_groups c_law_groups k_law_groups
  have T_law_groups : Fn K mg "_law_groups" s_law_groups ["_law_n"] _ _ := ⟨F_law_groups, F_law_groups.binds (ps := ["_law_n"]) fun _ _ _ _ _ _ us hl => match us, hl with | [_], _ => rfl, PySem.W.mg_of X G a_law_groups⟩
  have F_law_letters := fun_mk (st := s_law_letters) l_law_letters c_law_letters k_law_letters
  have T_law_letters : Fn K mg "_law_letters" s_law_letters ["_law_text"] _ _ := ⟨F_law_letters, F_law_letters.binds (ps := ["_law_text"]) fun _ _ _ _ _ _ us hl => match us, hl with | [_], _ => rfl, PySem.W.mg_of X G a_law_letters⟩
  have F_law_labels_bytes := fun_mk (st := s_law_labels_bytes) l_law_labels_bytes c_law_labels_bytes k_law_labels_bytes
  have T_law_labels_bytes : Fn K mg "_law_labels_bytes" s_law_labels_bytes ["_law_labels_here"] _ _ := ⟨F_law_labels_bytes, F_law_labels_bytes.binds (ps := ["_law_labels_here"]) fun _ _ _ _ _ _ us hl => match us, hl with | [_], _ => rfl, PySem.W.mg_of X G a_law_labels_bytes⟩
  have F_law_integer_bytes := fun_mk (st := s_law_integer_bytes) l_law_integer_bytes c_law_integer_bytes k_law_integer_bytes
  have T_law_integer_bytes : Fn K mg "_law_integer_bytes" s_law_integer_bytes ["_law_i"] _ _ := ⟨F_law_integer_bytes, F_law_integer_bytes.binds (ps := ["_law_i"]) fun _ _ _ _ _ _ us hl => match us, hl with | [_], _ => rfl, PySem.W.mg_of X G a_law_integer_bytes⟩
  have F_law_block_bytes := fun_mk (st := s_law_block_bytes) l_law_block_bytes c_law_block_bytes k_law_block_bytes
  have T_law_block_bytes : Fn K mg "_law_block_bytes" s_law_block_bytes ["_law_start", "_law_width", "_law_samples"] _ _ := ⟨F_law_block_bytes, F_law_block_bytes.binds (ps := ["_law_start", "_law_width", "_law_samples"]) fun _ _ _ _ _ _ us hl => match us, hl with | [_, _, _], _ => rfl, PySem.W.mg_of X G a_law_block_bytes⟩
  have F_law := fun_mk (st := s_law) l_law c_law k_law
  have T_law : Fn K mg "law" s_law ["_law_script"] _ _ := ⟨F_law, F_law.binds (ps := ["_law_script"]) fun _ _ _ _ _ _ us hl => match us, hl with | [_], _ => rfl, PySem.W.mg_of X G a_law⟩
  exact ⟨PySem.W.fnOf "law" "law" (defArgs s_law) (defBody s_law) (defScope s_law) .none kV_law dc_law pm_law an_law cd_law ct_law, fun s v => .of_eq rfl, fun base _ _ => spL_ok (cm := cm) (ok_law Bz ⟨trivial, PySem.W.mg_of X G v_LAST_TIME⟩ ⟨trivial, PySem.W.mg_of X G v_LETTERS⟩ ⟨trivial, PySem.W.mg_of X G v_MOST_CHARS⟩ ⟨trivial, PySem.W.mg_of X G v_MOST_LABELS⟩ ⟨trivial, PySem.W.mg_of X G v_VALUE_BOUND⟩ ⟨trivial, PySem.W.mg_of X G v_WORD_CHARS⟩ T_law_names T_law_draws T_law_name T_law_cell T_law_worths T_law_worth T_law_block T_law_labels T_law_number T_block_of T_series_of T_law_series T_samples_of T_spread T_put_block T_put_number T_put_labels T_put_text T_put_points T_put_integer T_law_block_bytes T_law_groups T_law_labels_bytes T_law_letters T_law_integer_bytes T_take_block T_take_number T_take_all_series T_take_series T_take_labels T_take_text T_char_at T_take_points T_take_integer T_is_block T_is_plain T_are_plain_labels T_is_name T_is_value T_law)⟩
end K22
namespace K22
open PySem PySem.Spec PyProof.Rows L2 TL Pl
theorem draws_eq : law_draws_f = drawsF := rfl
theorem cell_eq : law_cell_f = cellF := rfl
/-! ### names and worths: of word signs -/
def WC (s : Str) : Prop := ∀ c ∈ tl s, c ∈ tl wch
theorem WC_app {a b : Str} (ha : WC a) (hb : WC b) : WC (a ++ b) := by
  intro c hc
  rw [tl_append] at hc
  rcases List.mem_append.mp hc with h | h
  · exact ha c h
  · exact hb c h
theorem WC_one {n : Nat} (h : n ∈ tl wch) : WC ⟨#[n]⟩ := by
  intro c hc
  have : c = n := List.mem_singleton.mp hc
  rw [this]; exact h
theorem WC_mul {n : Nat} (h : n ∈ tl wch) (k : Int) : WC (Txt.mul ⟨#[n]⟩ k) := by
  intro c hc
  have e : tl (Txt.mul ⟨#[n]⟩ k) = List.replicate k.toNat n := mul_one_list n k
  rw [e] at hc
  rw [List.eq_of_mem_replicate hc]; exact h
theorem at_w (z : Str) (h : z.length ≤ 1000) (g : (z.cps.toList.all fun n => decide (n ∈ tl wch)) = true) (d : Int) (h0 : 0 ≤ d) (h1 : d < z.length) : ∃ c, c ∈ tl wch ∧ ixS (.d (.str z)) (.d (.int d)) = .ok (.d (.str ⟨#[c]⟩)) := by
  have e := ixS_sj z d.toNat h (by omega)
  rw [show ((d.toNat : Nat) : Int) = d by omega] at e
  refine ⟨z.cps.toList.getD d.toNat 0, ?_, e⟩
  have hl : d.toNat < z.cps.toList.length := by
    have : z.length = z.cps.toList.length := len_tl z
    omega
  rw [List.getD_eq_getElem?_getD, List.getElem?_eq_getElem hl]
  exact of_decide_eq_true (List.all_eq_true.mp g _ (List.getElem_mem hl))
theorem mulA_s (z : Str) (n : Int) (h : 1 ≤ n ∧ n ≤ 1000 ∧ z.length ≤ 1000) : mulA (.d (.str z)) (.d (.int n)) = .ok (.d (.str (Txt.mul z n))) := by
  show (if 1 ≤ n ∧ n ≤ 1000 ∧ z.length ≤ 1000 then (R.ok (SV.d (.str (Txt.mul z n)))) else .bad) = _
  rw [if_pos h]
def HD (s : Str) : Prop := ∃ c r, tl s = c :: r ∧ c ∈ tl ltr
theorem HD_app {a b : Str} (h : HD a) : HD (a ++ b) := by
  obtain ⟨c, r, e, m⟩ := h
  exact ⟨c, r ++ tl b, by rw [tl_append, e]; rfl, m⟩
theorem lit26h (a : Int) : ∃ c, c ∈ tl wch ∧ ixS (.d (.str "abcdefghijklmnopqrstuvwxyz0123456789_")) (.d (.int (a % 26))) = .ok (.d (.str ⟨#[c]⟩)) ∧ c ∈ tl ltr := by
  have l : ("abcdefghijklmnopqrstuvwxyz0123456789_" : Str).length = 37 := by decide +kernel
  have h := imodN a 26 (by omega)
  have e := ixS_sj "abcdefghijklmnopqrstuvwxyz0123456789_" (a % 26).toNat (by rw [l]; omega) (by rw [l]; omega)
  rw [show (((a % 26).toNat : Nat) : Int) = a % 26 by omega] at e
  have all : ∀ j : Fin 26, ("abcdefghijklmnopqrstuvwxyz0123456789_" : Str).cps.toList.getD j.val 0 ∈ tl wch ∧ ("abcdefghijklmnopqrstuvwxyz0123456789_" : Str).cps.toList.getD j.val 0 ∈ tl ltr := by decide +kernel
  have q := all ⟨(a % 26).toNat, by omega⟩
  exact ⟨_, q.1, e, q.2⟩
theorem lit26 (a : Int) : ∃ c, c ∈ tl wch ∧ ixS (.d (.str "abcdefghijklmnopqrstuvwxyz0123456789_")) (.d (.int (a % 26))) = .ok (.d (.str ⟨#[c]⟩)) := by
  have l : ("abcdefghijklmnopqrstuvwxyz0123456789_" : Str).length = 37 := by decide +kernel
  have h := imodN a 26 (by omega)
  exact at_w _ (by rw [l]; omega) (by decide +kernel) _ h.1 (by rw [l]; omega)
theorem lit37 (a : Int) : ∃ c, c ∈ tl wch ∧ ixS (.d (.str "abcdefghijklmnopqrstuvwxyz0123456789_")) (.d (.int (a % 37))) = .ok (.d (.str ⟨#[c]⟩)) := by
  have l : ("abcdefghijklmnopqrstuvwxyz0123456789_" : Str).length = 37 := by decide +kernel
  have h := imodN a 37 (by omega)
  exact at_w _ (by rw [l]; omega) (by decide +kernel) _ h.1 (by rw [l]; omega)
theorem lit37b (a : Int) : ∃ c, c ∈ tl wch ∧ ixS (.d (.str "0123456789_abcdefghijklmnopqrstuvwxyz")) (.d (.int (a % 37))) = .ok (.d (.str ⟨#[c]⟩)) := by
  have l : ("0123456789_abcdefghijklmnopqrstuvwxyz" : Str).length = 37 := by decide +kernel
  have h := imodN a 37 (by omega)
  exact at_w _ (by rw [l]; omega) (by decide +kernel) _ h.1 (by rw [l]; omega)
theorem len1 (c : Nat) : (⟨#[c]⟩ : Str).length = 1 := rfl
theorem name_ok (a b : Int) : ∃ s : Str, law_name_f [.int a, .int b] = .ok (.d (.str s)) ∧ (1 ≤ s.length ∧ s.length ≤ 20) ∧ WC s ∧ HD s := by
  obtain ⟨x, wx, hx, fx⟩ := lit26h a
  have hd : HD ⟨#[x]⟩ := ⟨x, [], rfl, fx⟩
  obtain ⟨y, wy, hy⟩ := lit37 (b / 5)
  obtain ⟨z, wz, hz⟩ := lit37 (a / 26)
  have lx := len1 x
  have ly := len1 y
  have lz := len1 z
  have ux := WC_one wx
  have uy := WC_one wy
  have uz := WC_one wz
  have um : WC (Txt.mul "_" 17) := by
    have : ("_" : Str) = ⟨#[95]⟩ := by decide +kernel
    rw [this]
    exact WC_mul (by decide +kernel) 17
  generalize (⟨#[x]⟩ : Str) = x at *
  generalize (⟨#[y]⟩ : Str) = y at *
  generalize (⟨#[z]⟩ : Str) = z at *
  have lm : (Txt.mul "_" 17).length = 17 := by decide +kernel
  have l1 : ("_" : Str).length ≤ 1000 := by decide +kernel
  have e1 := addS_s x y (by omega) (by omega)
  have q1 := len_app x y
  have e2 := addS_s (x ++ y) z (by omega) (by omega)
  have q2 := len_app (x ++ y) z
  have e3 := addS_s (x ++ y) (Txt.mul "_" 17) (by omega) (by omega)
  have q3 := len_app (x ++ y) (Txt.mul "_" 17)
  have e4 := addS_s (x ++ y ++ Txt.mul "_" 17) z (by omega) (by omega)
  have q4 := len_app (x ++ y ++ Txt.mul "_" 17) z
  have em := mulA_s "_" 17 ⟨by omega, by omega, l1⟩
  unfold law_name_f runB law_name_b startE
  by_cases c1 : b % 5 = 0
  · exact ⟨x, by simp [hx, c1], ⟨by omega, by omega⟩, ux, hd⟩
  · by_cases c2 : b % 5 = 1
    · exact ⟨x ++ y, by simp [hx, hy, e1, c1, c2], ⟨by omega, by omega⟩, WC_app ux uy, HD_app hd⟩
    · by_cases c3 : b % 25 = 24
      · exact ⟨x ++ y ++ Txt.mul "_" 17 ++ z, by simp [hx, hy, hz, e1, e3, e4, em, c1, c2, c3], ⟨by omega, by omega⟩, WC_app (WC_app (WC_app ux uy) um) uz, HD_app (HD_app (HD_app hd))⟩
      · exact ⟨x ++ y ++ z, by simp [hx, hy, hz, e1, e2, c1, c2, c3], ⟨by omega, by omega⟩, WC_app (WC_app ux uy) uz, HD_app (HD_app hd)⟩
theorem worth_ok (a b : Int) : ∃ s : Str, law_worth_f [.int a, .int b] = .ok (.d (.str s)) ∧ (1 ≤ s.length ∧ s.length ≤ 20) ∧ WC s := by
  obtain ⟨x, wx, hx⟩ := lit37b a
  obtain ⟨y, wy, hy⟩ := lit37b (b / 4)
  have lx := len1 x
  have ly := len1 y
  have ux := WC_one wx
  have uy := WC_one wy
  have um := WC_mul wx 19
  generalize (⟨#[x]⟩ : Str) = x at *
  generalize (⟨#[y]⟩ : Str) = y at *
  have lm : (Txt.mul x 19).length = 19 := by
    have := PyProof.Rows.len_mul x 19
    rw [lx] at this
    simp at this
    omega
  have e1 := addS_s x y (by omega) (by omega)
  have q1 := len_app x y
  have e2 := addS_s (Txt.mul x 19) y (by omega) (by omega)
  have q2 := len_app (Txt.mul x 19) y
  have em := mulA_s x 19 ⟨by omega, by omega, by omega⟩
  unfold law_worth_f runB law_worth_b startE
  by_cases c1 : b % 4 = 0
  · exact ⟨x, by simp [hx, c1], ⟨by omega, by omega⟩, ux⟩
  · by_cases c2 : b % 32 = 31
    · exact ⟨Txt.mul x 19 ++ y, by simp [hx, hy, e2, em, c1, c2], ⟨by omega, by omega⟩, WC_app um uy⟩
    · exact ⟨x ++ y, by simp [hx, hy, e1, c1, c2], ⟨by omega, by omega⟩, WC_app ux uy⟩
theorem names_ok (c m : Int) (h0 : 0 ≤ m) (hm : m ≤ 100) : ∃ ws : List Str, law_names_f [.int c, .int m] = .ok (.ol (ws.map PyData.str)) ∧ ws.length = m.toNat ∧ ∀ w ∈ ws, (1 ≤ w.length ∧ w.length ≤ 20) ∧ WC w ∧ HD w := by
  have hz := line16
  obtain ⟨ds, d1, d2, _⟩ := draws_ok c (2 * m) (by omega) (by omega)
  rw [draws_eq.symm] at d1
  obtain ⟨ws, e1, e2, e3⟩ := lcF_ex PyData.str (fun w : Str => (1 ≤ w.length ∧ w.length ≤ 20) ∧ WC w ∧ HD w) (k := setD 3)
    (e := (callF 2 law_name_f (conA (bin ixS (peek 2) (bin mulA (kon (.int 2)) (peek 3))) (conA (bin ixS (peek 2) (bin addS (bin mulA (kon (.int 2)) (peek 3)) (kon (.int 1)))) nilA))))
    (ρ0 := [some (.d (.int c)), some (.d (.int m)), some (.ol (ds.map PyData.int)), none]) (rng 0 m) (by
      intro x hx
      obtain ⟨i, rfl, hi, hi2⟩ := rng_mem hx
      obtain ⟨u, _, hu⟩ := atI_ints ds (2 * i) (by omega) (by omega)
      obtain ⟨v, _, hv⟩ := atI_ints ds (2 * i + 1) (by omega) (by omega)
      obtain ⟨s, s1, s2⟩ := name_ok u v
      exact ⟨_, .d (.str s), s, rfl, by simp [hu, hv, s1], rfl, s2⟩)
  refine ⟨ws, ?_, by rw [e2, rng_len]; congr 1; omega, e3⟩
  have hl : m.toNat < sizeLine := by omega
  have hR : okR m = true := okR_of (by omega) (by omega)
  unfold law_names_f runB law_names_b startE
  simp [d1, hR, hl, e1]
theorem worths_ok (c m : Int) (h0 : 0 ≤ m) (hm : m ≤ 100) : ∃ ws : List Str, law_worths_f [.int c, .int m] = .ok (.ol (ws.map PyData.str)) ∧ ws.length = m.toNat ∧ ∀ w ∈ ws, (1 ≤ w.length ∧ w.length ≤ 20) ∧ WC w := by
  have hz := line16
  obtain ⟨ds, d1, d2, _⟩ := draws_ok c (2 * m) (by omega) (by omega)
  rw [draws_eq.symm] at d1
  obtain ⟨ws, e1, e2, e3⟩ := lcF_ex PyData.str (fun w : Str => (1 ≤ w.length ∧ w.length ≤ 20) ∧ WC w) (k := setD 3)
    (e := (callF 2 law_worth_f (conA (bin ixS (peek 2) (bin mulA (kon (.int 2)) (peek 3))) (conA (bin ixS (peek 2) (bin addS (bin mulA (kon (.int 2)) (peek 3)) (kon (.int 1)))) nilA))))
    (ρ0 := [some (.d (.int c)), some (.d (.int m)), some (.ol (ds.map PyData.int)), none]) (rng 0 m) (by
      intro x hx
      obtain ⟨i, rfl, hi, hi2⟩ := rng_mem hx
      obtain ⟨u, _, hu⟩ := atI_ints ds (2 * i) (by omega) (by omega)
      obtain ⟨v, _, hv⟩ := atI_ints ds (2 * i + 1) (by omega) (by omega)
      obtain ⟨s, s1, s2⟩ := worth_ok u v
      exact ⟨_, .d (.str s), s, rfl, by simp [hu, hv, s1], rfl, s2⟩)
  refine ⟨ws, ?_, by rw [e2, rng_len]; congr 1; omega, e3⟩
  have hl : m.toNat < sizeLine := by omega
  have hR : okR m = true := okR_of (by omega) (by omega)
  unfold law_worths_f runB law_worths_b startE
  simp [d1, hR, hl, e1]
theorem rowV_of {s : Str} (h : 1 ≤ s.length ∧ s.length ≤ 20) (w : WC s) : rowV s = true := by
  unfold rowV
  rw [Bool.and_eq_true]
  exact ⟨decide_eq_true h, List.all_eq_true.mpr fun n hn => decide_eq_true (w n hn)⟩
theorem rowN_of {s : Str} (h : 1 ≤ s.length ∧ s.length ≤ 20) (w : WC s) (hd : HD s) : rowN s = true := by
  obtain ⟨c, r, e, m⟩ := hd
  unfold rowN headL
  rw [rowV_of h w, Bool.true_and]
  have e' : s.cps.toList = c :: r := e
  rw [e']
  exact decide_eq_true m
theorem is_value_ok (t : Str) (h : t.length ≤ 1000) : is_value_f [.str t] = .ok (.d (.bool (rowV t))) := by
  have lp := forF_all (fun n : Nat => PyData.str ⟨#[n]⟩) (fun n => decide (n ∈ wch.cps.toList)) (.d (.bool false)) (k := setD 1) (b := is_value_w1) (ρ0 := [some (.d (.str t)), none]) t.cps.toList fun n _ => ⟨_, rfl, by
    have e := inS_chr true n wch
    unfold is_value_w1
    by_cases c : n ∈ wch.cps.toList <;> simp [c] at e <;> simp [c, e]⟩
  have lt := lenS_str t h
  have el := empty_len t
  have hb : ∀ ρ, ρ = [some (.d (.str t)), none] → is_value_b ρ = .ok (.rt (.d (.bool (rowV t)))) := by
    rintro _ rfl
    unfold is_value_b rowV
    by_cases c : 1 ≤ t.length ∧ t.length ≤ 20
    · have c1 : ¬ t = "" := fun z => by have := el.mp z; omega
      have c2 : ¬ (20 : Int) < t.length := by omega
      refine seq_nx (ρ1 := [some (.d (.str t)), none]) (by simp [c1, lt, c2]) ?_
      rw [seqS_ap, forS_ap, seqD_ap]
      show ((forF _ _ _ [some (.d (.str t)), none] : R Fl) >>= _) = _
      rw [lp]
      cases t.cps.toList.all fun n => decide (n ∈ wch.cps.toList) <;> simp [c]
    · rw [decide_eq_false c, Bool.false_and]
      by_cases c1 : t = ""
      · rw [seqS_ap]
        simp [c1]
      · have c2 : (20 : Int) < t.length := by
          have : t.length ≠ 0 := fun z => c1 (el.mpr z)
          omega
        rw [seqS_ap]
        simp [c1, lt, c2]
  exact runB_rt (hb _ rfl) rfl
theorem is_name_ok (t : Str) (h : t.length ≤ 1000) : is_name_f [.str t] = .ok (.d (.bool (rowN t))) := by
  have v := is_value_ok t h
  have hb : ∀ ρ, ρ = [some (.d (.str t))] → is_name_b ρ = .ok (.rt (.d (.bool (rowN t)))) := by
    rintro _ rfl
    unfold is_name_b rowN
    cases c : rowV t with
    | false => rw [c] at v; simp [v]
    | true =>
      rw [c] at v
      cases q : t.cps.toList with
      | nil =>
        exfalso
        refine rowV_ne c ((empty_len t).mpr ?_)
        rw [← len_cps, q]; rfl
      | cons n r =>
        have i0 := ixS_first t n r q h
        have e := inS_chr false n ltr
        have hh : headL t = decide (n ∈ ltr.cps.toList) := by unfold headL; rw [q]
        simp [v, i0, e, hh]
  exact runB_rt (hb _ rfl) rfl
structure LabI (nms ws : List Str) (P : Lab) : Prop where
  nd : (P.map Prod.fst).Nodup
  mem : ∀ p ∈ P, p.1 ∈ nms ∧ p.2 ∈ ws
theorem labels_w1_ok (ds : List Int) (nms ws : List Str) (P : Lab) (k : Int) (hI : LabI nms ws P) (hn : 0 < nms.length) (hw : 0 < ws.length) (h0 : 0 ≤ k) (h1 : k + 1 < ds.length) (hP : P.length < 1000) :
    ∃ P' : Lab, law_labels_w1 [some (.d (.list (ds.map PyData.int))), some (.d (.list (nms.map PyData.str))), some (.d (.list (ws.map PyData.str))), some (.ol (P.map encP)), some (.ol ((P.map Prod.fst).map PyData.str)), some (.d (.int k)), none]
      = .ok (.nx [some (.d (.list (ds.map PyData.int))), some (.d (.list (nms.map PyData.str))), some (.d (.list (ws.map PyData.str))), some (.ol (P'.map encP)), some (.ol ((P'.map Prod.fst).map PyData.str)), none, none]) ∧ P'.length ≤ P.length + 1 ∧ LabI nms ws P' := by
  have hz := line16
  obtain ⟨a, _, ha⟩ := atI_ints ds k h0 (by omega)
  obtain ⟨b, _, hb⟩ := atI_ints ds (k + 1) (by omega) (by omega)
  have hn' : (0 : Int) < nms.length := by omega
  have hw' : (0 : Int) < ws.length := by omega
  have ma := imodN a nms.length hn'
  have mb := imodN b ws.length hw'
  obtain ⟨x, mx, hx⟩ := atI_map PyData.str nms (a % nms.length) ma.1 ma.2
  obtain ⟨y, my, hy⟩ := atI_map PyData.str ws (b % ws.length) mb.1 mb.2
  generalize hU : P.map Prod.fst = U at *
  have hUl : U.length < 1000 := by subst hU; simpa using hP
  have hi := inS_strsO true x U
  have l1 : P.length < sizeLine := by omega
  have l2 : U.length < sizeLine := by omega
  unfold law_labels_w1
  by_cases c : x ∈ U
  · exact ⟨P, by simp [ha, hn, hn', hx, hi, c, hU], by omega, hI⟩
  · refine ⟨P ++ [(x, y)], by rw [List.map_append, List.map_append, hU]; simp [ha, hb, hn, hn', hw, hw', hx, hy, hi, c, l1, l2, encP], by simp, ?_, ?_⟩
    · rw [List.map_append, List.nodup_append]
      refine ⟨hI.nd, by simp, ?_⟩
      intro z hz w hw
      simp at hw
      subst hw
      rintro rfl
      exact c (hU ▸ hz)
    · intro p hp
      rcases List.mem_append.mp hp with hp | hp
      · exact hI.mem p hp
      · simp at hp; subst hp; exact ⟨mx, my⟩
theorem small2 (j : Int) (h : j ≤ 100000) (h0 : -100000 ≤ j) : Builtin.Range.small 0 j 2 = true := by
  have e : 0 ≤ Builtin.Range.rangeSize 0 j 2 ∧ Builtin.Range.rangeSize 0 j 2 ≤ 100000 := by
    unfold Builtin.Range.rangeSize
    simp
    split <;> omega
  unfold Builtin.Range.small Builtin.Range.rangeFitsLong
  simp
  omega
theorem labels_ok' (ds : List Int) (nms ws : List Str) (hd : ds.length ≤ 100) (hn : 0 < nms.length) (hw : 0 < ws.length) : ∃ l : Lab, law_labels_f [.list (ds.map PyData.int), .list (nms.map PyData.str), .list (ws.map PyData.str)] = .ok (.d (encB l)) ∧ l.length ≤ 100 ∧ Asc l ∧ ∀ p ∈ l, p.1 ∈ nms ∧ p.2 ∈ ws := by
  have hz := line16
  generalize hN : (if (0 : Int) < (ds.length : Int) - 1 then ((ds.length : Int) - 1 - 0 - 1) / 2 + 1 else 0).toNat = N
  have hNb : 2 * N ≤ ds.length := by split at hN <;> omega
  obtain ⟨ρ', e1, P, e2, e3, e4⟩ := forF_inv (k := setD 5) (b := law_labels_w1) (fun i ρ => ∃ (P : Lab), ρ = [some (.d (.list (ds.map PyData.int))), some (.d (.list (nms.map PyData.str))), some (.d (.list (ws.map PyData.str))), some (.ol (P.map encP)), some (.ol ((P.map Prod.fst).map PyData.str)), none, none] ∧ P.length ≤ i ∧ LabI nms ws P) (rng3 0 2 N) _ ⟨[], rfl, Nat.le_refl _, List.nodup_nil, fun _ h => nomatch h⟩ (by
    rintro i x _ hx ⟨P, rfl, hP, hI⟩
    unfold rng3 at hx
    rw [List.getElem?_map] at hx
    cases e : (List.range N)[i]? with
    | none => rw [e] at hx; cases hx
    | some k =>
      rw [e] at hx; cases hx
      have hi : i < N := by
        rcases Nat.lt_or_ge i N with q | q
        · exact q
        · rw [List.getElem?_eq_none (by simpa using q)] at e; cases e
      rw [List.getElem?_range hi] at e
      cases e
      obtain ⟨P', h1, h2, h3⟩ := labels_w1_ok ds nms ws P (0 + (i : Nat) * 2) hI hn hw (by omega) (by omega) (by omega)
      exact ⟨_, _, rfl, .inl h1, P', rfl, by omega, h3⟩)
  subst e2
  have hr : (rng3 0 2 N).length = N := by unfold rng3; simp
  rw [hr] at e3
  obtain ⟨l, s1, s2, s3⟩ := sorted_asc P (by omega) e4.nd
  refine ⟨l, ?_, by rw [s2.length_eq]; omega, s3, fun p hp => e4.mem p (s2.mem_iff.mp hp)⟩
  have hsm : Builtin.Range.small 0 ((ds.length : Int) - 1) 2 = true := small2 _ (by omega) (by omega)
  have hb : ∀ ρ, ρ = [some (.d (.list (ds.map PyData.int))), some (.d (.list (nms.map PyData.str))), some (.d (.list (ws.map PyData.str))), none, none, none, none] → law_labels_b ρ = .ok (.rt (.d (encB l))) := by
    rintro _ rfl
    unfold law_labels_b
    refine seq_nx (asg_nx (r := .ol []) rfl rfl) (seq_nx (asg_nx (r := .ol []) rfl rfl) (seq_nx (ρ1 := [some (.d (.list (ds.map PyData.int))), some (.d (.list (nms.map PyData.str))), some (.d (.list (ws.map PyData.str))), some (.ol (P.map encP)), some (.ol ((P.map Prod.fst).map PyData.str)), none, none]) ?_ ?_))
    · rw [forS_ap]
      have q : rngD3 (conB (kon (.int 0)) (conB (bin subS (callB lenS (conB (peek 0) nilB)) (kon (.int 1))) (conB (kon (.int 2)) nilB))) [some (.d (.list (ds.map PyData.int))), some (.d (.list (nms.map PyData.str))), some (.d (.list (ws.map PyData.str))), some (.ol []), some (.ol []), none, none] = .ok (rng3 0 2 N) := by
        unfold rngD3
        simp only [conB_ap, kon_ap, ok_bind, bin_ap, callB_ap, peek_ap, nilB_ap, List.getElem?_cons_zero, lenS_l, List.length_map, subS_i]
        rw [if_pos ⟨by omega, by omega, hsm⟩, hN]
      show rngD3 _ [some (.d (.list (ds.map PyData.int))), some (.d (.list (nms.map PyData.str))), some (.d (.list (ws.map PyData.str))), some (.ol []), some (.ol []), none, none] >>= _ = _
      rw [q]; exact e1
    · simp [s1, encB]
  exact runB_rt (hb _ rfl) rfl
theorem labels_ok (ds : List Int) (nms ws : List Str) (hd : ds.length ≤ 100) (hn : 0 < nms.length) (hw : 0 < ws.length) : ∃ l : Lab, law_labels_f [.list (ds.map PyData.int), .list (nms.map PyData.str), .list (ws.map PyData.str)] = .ok (.d (encB l)) ∧ l.length ≤ 100 :=
  let ⟨l, a, b, _⟩ := labels_ok' ds nms ws hd hn hw; ⟨l, a, b⟩
theorem cutD_len {α : Type} (xs : List α) (lo hi : Option Int) : (Pl.cutD xs lo hi).length ≤ xs.length := by
  unfold Pl.cutD
  rw [List.length_take, List.length_drop]; omega
theorem cutD_map {α β : Type} (f : α → β) (xs : List α) (lo hi : Option Int) : Pl.cutD (xs.map f) lo hi = (Pl.cutD xs lo hi).map f := by
  unfold Pl.cutD
  rw [List.map_take, List.map_drop, List.length_map]
/-! ### groups of seven bits -/
abbrev bI (n : Nat) : D := .int n
def grp (n : Nat) : List Nat := if h : n < 128 then [n] else (n % 128 + 128) :: grp (n / 128)
termination_by n
decreasing_by omega
theorem grp_lt {n : Nat} (h : n < 128) : grp n = [n] := by rw [grp, dif_pos h]
theorem grp_ge {n : Nat} (h : ¬ n < 128) : grp n = (n % 128 + 128) :: grp (n / 128) := by rw [grp, dif_neg h]
def val : List Nat → Nat
  | [] => 0
  | b :: r => b % 128 + 128 * val r
/-- a row of groups: all but the last carry the sign of going on -/
theorem grp_split : ∀ k n, n < 128 ^ (k + 1) → ∃ bs m, grp n = bs ++ [m] ∧ (∀ b ∈ bs, 128 ≤ b ∧ b ≤ 255) ∧ m < 128 ∧ (1 ≤ n → 1 ≤ m) ∧ val (bs ++ [m]) = n ∧ bs.length ≤ k ∧ (n < 128 → bs = [])
  | 0, n, h => ⟨[], n, grp_lt h, (fun _ q => nomatch q), h, fun q => q, by show n % 128 + 128 * 0 = n; omega, Nat.le_refl _, fun _ => rfl⟩
  | k + 1, n, h => by
    by_cases c : n < 128
    · exact ⟨[], n, grp_lt c, (fun _ q => nomatch q), c, fun q => q, by show n % 128 + 128 * 0 = n; omega, Nat.zero_le _, fun _ => rfl⟩
    · have h' : n / 128 < 128 ^ (k + 1) := by rw [Nat.pow_succ] at h; omega
      obtain ⟨bs, m, e1, e2, e3, e4, e5, e6, _⟩ := grp_split k (n / 128) h'
      refine ⟨(n % 128 + 128) :: bs, m, by rw [grp_ge c, e1]; rfl, ?_, e3, fun _ => e4 (by omega), ?_, by simp; omega, fun q => absurd q c⟩
      · intro b hb
        rcases List.mem_cons.mp hb with rfl | hb
        · omega
        · exact e2 b hb
      · show (n % 128 + 128) % 128 + 128 * val (bs ++ [m]) = n
        rw [e5]; omega
/-- and back: a row that ends in a group that is not nought, or is one group -/
theorem val_pos : ∀ bs m, m < 128 → 1 ≤ m → 1 ≤ val (bs ++ [m])
  | [], m, h, h1 => by show 1 ≤ m % 128 + 128 * 0; omega
  | b :: bs, m, h, h1 => by
    have := val_pos bs m h h1
    show 1 ≤ b % 128 + 128 * val (bs ++ [m]); omega
theorem grp_val : ∀ bs m, (∀ b ∈ bs, 128 ≤ b ∧ b ≤ 255) → m < 128 → (bs ≠ [] → 1 ≤ m) → grp (val (bs ++ [m])) = bs ++ [m]
  | [], m, _, h, _ => by
    have : val ([] ++ [m]) = m := by show m % 128 + 128 * 0 = m; omega
    rw [this, grp_lt h]; rfl
  | b :: bs, m, hb, h, h1 => by
    have p := val_pos bs m h (h1 (fun q => nomatch q))
    have ih := grp_val bs m (fun b hb' => hb b (List.mem_cons_of_mem _ hb')) h (fun _ => h1 (fun q => nomatch q))
    have hb0 := hb b List.mem_cons_self
    have e : val (b :: bs ++ [m]) = b % 128 + 128 * val (bs ++ [m]) := rfl
    rw [e, grp_ge (by omega), show (b % 128 + 128 * val (bs ++ [m])) % 128 + 128 = b by omega, show (b % 128 + 128 * val (bs ++ [m])) / 128 = val (bs ++ [m]) by omega, ih]; rfl
theorem val_lt : ∀ bs, val bs < 128 ^ bs.length
  | [] => Nat.one_pos
  | b :: bs => by
    have := val_lt bs
    show b % 128 + 128 * val bs < 128 ^ (bs.length + 1)
    rw [Nat.pow_succ]; omega
theorem grp_nocanon (bs : List Nat) (h : bs ≠ []) : ∀ v, v < 128 ^ 20 → grp v ≠ bs ++ [0] := by
  intro v hv e
  obtain ⟨bs', m', e1, _, _, e4, _, _, e7⟩ := grp_split 19 v hv
  rw [e1] at e
  obtain ⟨q1, q2⟩ := List.append_inj' e rfl
  have hm : m' = 0 := by simpa using q2
  by_cases c : 1 ≤ v
  · have := e4 c; omega
  · exact h (by rw [← q1]; exact e7 (by omega))
/-! ### the program puts, the law groups -/
abbrev putE (n : Nat) (A : List Nat) : En := [some (.d (.int n)), some (.ol (A.map bI))]
theorem put_loop : ∀ k N n A, n < 128 ^ (k + 1) → k < N → A.length + k < 100000 → ∃ m A', whileF N put_number_t1 put_number_w1 (putE n A) = .ok (.nx (putE m A')) ∧ A' ++ [m] = A ++ grp n ∧ A'.length ≤ A.length + k := by
  intro k
  induction k with
  | zero =>
    intro N n A h hN hA
    obtain ⟨N, rfl⟩ : ∃ N', N = N' + 1 := ⟨N - 1, by omega⟩
    have c : ¬ (128 : Int) ≤ n := by omega
    refine ⟨n, A, ?_, by rw [grp_lt (by omega)], by omega⟩
    unfold whileF put_number_t1 put_number_w1
    simp [c]
  | succ k ih =>
    intro N n A h hN hA
    have hz := line16
    obtain ⟨N, rfl⟩ : ∃ N', N = N' + 1 := ⟨N - 1, by omega⟩
    by_cases c : n < 128
    · have c' : ¬ (128 : Int) ≤ n := by omega
      refine ⟨n, A, ?_, by rw [grp_lt c], by omega⟩
      unfold whileF put_number_t1 put_number_w1
      simp [c']
    · have c' : (128 : Int) ≤ n := by omega
      have h' : n / 128 < 128 ^ (k + 1) := by rw [Nat.pow_succ] at h; omega
      obtain ⟨m, A', e1, e2, e3⟩ := ih N (n / 128) (A ++ [n % 128 + 128]) h' (by omega) (by simp; omega)
      refine ⟨m, A', ?_, by rw [e2, grp_ge c]; simp, by simp at e3; omega⟩
      have l : A.length < sizeLine := by omega
      have w : put_number_w1 (putE n A) = .ok (.nx (putE (n / 128) (A ++ [n % 128 + 128]))) := by
        unfold put_number_w1
        simp [l]
      have t : put_number_t1 (putE n A) = .ok true := by
        unfold put_number_t1
        simp [c']
      unfold whileF
      simp only [t, w, ok_bind, if_true]
      exact e1
theorem put_number_ok (n : Nat) (h : n < 128 ^ 20) : put_number_f [.int n] = .ok (.ol ((grp n).map bI)) := by
  have hz := line16
  obtain ⟨m, A', e1, e2, e3⟩ := put_loop 19 1000000 n [] h (by omega) (by simp)
  have hb : ∀ ρ, ρ = [some (.d (.int n)), none] → put_number_b ρ = .ok (.rt (.ol ((grp n).map bI))) := by
    rintro _ rfl
    unfold put_number_b
    refine seq_nx (asg_nx (r := .ol []) rfl rfl) (seq_nx (ρ1 := putE m A') e1 ?_)
    have l : A'.length < sizeLine := by simp at e3; omega
    have e : grp n = A' ++ [m] := by rw [e2]; rfl
    rw [e]
    simp [l]
  exact runB_rt (hb _ rfl) rfl
/-! ### the program takes -/
abbrev takE (A : List Nat) (a n w : Nat) : En := [some (.d (.list (A.map bI))), some (.d (.int a)), some (.d (.int n)), some (.d (.int w))]
theorem at_drop {A : List Nat} {a b : Nat} {r : List Nat} (h : A.drop a = b :: r) : A[a]? = some b ∧ A.drop (a + 1) = r ∧ a < A.length := by
  have h1 : (A.drop a)[0]? = some b := by rw [h]; rfl
  rw [List.getElem?_drop, Nat.add_zero] at h1
  refine ⟨h1, ?_, (List.getElem?_eq_some_iff.mp h1).1⟩
  rw [← List.drop_drop, h]; rfl
theorem at_bI {A : List Nat} {a b : Nat} (h : A[a]? = some b) : atI (A.map bI) (a : Int) = some (.int (b : Nat)) := by
  rw [atI_cast, List.getElem?_map, h]; rfl
theorem take_loop : ∀ (bs : List Nat) N A a n w r, (∀ b ∈ bs, 128 ≤ b ∧ b ≤ 255) → bs.length < N → A.drop a = bs ++ r → (r = [] ∨ ∃ m r', r = m :: r' ∧ m < 128) → whileF N take_number_t1 take_number_w1 (takE A a n w) = .ok (.nx (takE A (a + bs.length) (n + w * val bs) (w * 128 ^ bs.length)))
  | [], N, A, a, n, w, r, _, hN, hA, hr => by
    obtain ⟨N, rfl⟩ : ∃ N', N = N' + 1 := ⟨N - 1, by simp at hN; omega⟩
    have t : take_number_t1 (takE A a n w) = .ok false := by
      rcases hr with rfl | ⟨m, r', rfl, hm⟩
      · have : A.length ≤ a := List.drop_eq_nil_iff.mp hA
        unfold take_number_t1
        have c : ¬ (a : Int) < A.length := by omega
        simp [c]
      · obtain ⟨h1, _, h3⟩ := at_drop hA
        have c : (a : Int) < A.length := by omega
        have c2 : ¬ (128 : Int) ≤ m := by omega
        unfold take_number_t1
        simp [at_bI h1, c2]
    unfold whileF
    simp only [t, ok_bind]
    show R.ok (Fl.nx (takE A a n w)) = .ok (.nx (takE A (a + 0) (n + w * 0) (w * 1)))
    rw [Nat.mul_zero, Nat.mul_one]; rfl
  | b :: bs, N, A, a, n, w, r, hb, hN, hA, hr => by
    obtain ⟨N, rfl⟩ : ∃ N', N = N' + 1 := ⟨N - 1, by simp at hN; omega⟩
    obtain ⟨h1, h2, h3⟩ := at_drop hA
    have ih := take_loop bs N A (a + 1) (n + w * (b - 128)) (w * 128) r (fun b hb' => hb b (List.mem_cons_of_mem _ hb')) (by simp at hN; omega) h2 hr
    have hb0 := hb b List.mem_cons_self
    have c : (a : Int) < A.length := by omega
    have c2 : (128 : Int) ≤ b := by omega
    have t : take_number_t1 (takE A a n w) = .ok true := by
      unfold take_number_t1
      simp [at_bI h1, c2, h3]
    have k1 : (okM (w : Int) || okM ((b : Int) - 128)) = true := by
      have : okM ((b : Int) - 128) = true := by
        unfold okM
        rw [show (Int.natAbs ((b : Int) - 128)) = b - 128 by omega]
        exact Nat.blt_eq.mpr (by omega)
      rw [this, Bool.or_true]
    have k2 : (okM (w : Int) || okM 128) = true := by rw [show okM 128 = true from rfl, Bool.or_true]
    have w1 : take_number_w1 (takE A a n w) = .ok (.nx (takE A (a + 1) (n + w * (b - 128)) (w * 128))) := by
      unfold take_number_w1
      have e : (w : Int) * ((b : Int) - 128) = ((w * (b - 128) : Nat) : Int) := by
        rw [Int.natCast_mul, Int.natCast_sub hb0.1]; rfl
      have k1' : okM (w : Int) = true ∨ okM ((b : Int) - 128) = true := by simpa using k1
      have k2' : okM (w : Int) = true ∨ okM 128 = true := by simpa using k2
      refine seq_nx (asg_nx (r := .d (.int ((n + w * (b - 128) : Nat) : Int))) ?_ rfl) (seq_nx (asg_nx (r := .d (.int ((w * 128 : Nat) : Int))) ?_ rfl) (asg_nx (r := .d (.int ((a + 1 : Nat) : Int))) ?_ rfl))
      · simp [at_bI h1, k1', e]
      · simp
      · simp
    unfold whileF
    simp only [t, w1, ok_bind, if_true]
    rw [ih]
    have e1 : a + 1 + bs.length = a + (b :: bs).length := by simp; omega
    have e2 : n + w * (b - 128) + w * 128 * val bs = n + w * val (b :: bs) := by
      show _ = n + w * (b % 128 + 128 * val bs)
      rw [show b % 128 = b - 128 by omega, Nat.mul_add, Nat.mul_assoc]; omega
    have e3 : w * 128 * 128 ^ bs.length = w * 128 ^ (b :: bs).length := by
      rw [List.length_cons, Nat.pow_succ, Nat.mul_assoc, Nat.mul_comm 128]
    rw [e1, e2, e3]
theorem val_app (bs : List Nat) (m : Nat) (h : m < 128) : val (bs ++ [m]) = val bs + 128 ^ bs.length * m := by
  induction bs with
  | nil => show m % 128 + 128 * 0 = 0 + 1 * m; omega
  | cons b bs ih =>
    show b % 128 + 128 * val (bs ++ [m]) = b % 128 + 128 * val bs + 128 ^ (bs.length + 1) * m
    rw [ih, Nat.pow_succ, Nat.mul_add, Nat.mul_comm (128 ^ bs.length) 128, Nat.mul_assoc]; omega
theorem take_none (A : List Nat) (a : Nat) (bs : List Nat) (hb : ∀ b ∈ bs, 128 ≤ b ∧ b ≤ 255) (hl : bs.length < 1000) (hA : A.drop a = bs) : take_number_f [.list (A.map bI), .int a] = .ok (.d .none) := by
  have e1 := take_loop bs 1000000 A a 0 1 [] hb (by omega) (by rw [hA, List.append_nil]) (.inl rfl)
  have hla : A.length ≤ a + bs.length := by
    have := congrArg List.length hA
    rw [List.length_drop] at this; omega
  have hb : ∀ ρ, ρ = [some (.d (.list (A.map bI))), some (.d (.int a)), none, none] → take_number_b ρ = .ok (.rt (.d .none)) := by
    rintro _ rfl
    unfold take_number_b
    refine seq_nx (asg_nx (r := .d (.int (0 : Nat))) rfl rfl) (seq_nx (asg_nx (r := .d (.int (1 : Nat))) rfl rfl) (seq_nx (ρ1 := takE A (a + bs.length) (0 + 1 * val bs) (1 * 128 ^ bs.length)) e1 ?_))
    have c : (A.length : Int) ≤ ((a + bs.length : Nat) : Int) := by omega
    generalize a + bs.length = a' at *
    simp [c]
  exact runB_rt (hb _ rfl) rfl
theorem take_ok (A : List Nat) (a : Nat) (bs : List Nat) (m : Nat) (r : List Nat) (hb : ∀ b ∈ bs, 128 ≤ b ∧ b ≤ 255) (hm : m < 128) (hl : bs.length < 1000) (hA : A.drop a = bs ++ m :: r) : take_number_f [.list (A.map bI), .int a] = .ok (.d (if bs ≠ [] ∧ m = 0 then .none else .tuple [.int (val (bs ++ [m]) : Nat), .int ((a + bs.length + 1 : Nat) : Int)])) := by
  have e1 := take_loop bs 1000000 A a 0 1 (m :: r) hb (by omega) hA (.inr ⟨m, r, rfl, hm⟩)
  have hA' : A.drop (a + bs.length) = m :: r := by rw [← List.drop_drop, hA]; simp
  obtain ⟨h1, _, h3⟩ := at_drop hA'
  have hb : ∀ ρ, ρ = [some (.d (.list (A.map bI))), some (.d (.int a)), none, none] → take_number_b ρ = .ok (.rt (.d (if bs ≠ [] ∧ m = 0 then .none else .tuple [.int (val (bs ++ [m]) : Nat), .int ((a + bs.length + 1 : Nat) : Int)]))) := by
    rintro _ rfl
    unfold take_number_b
    refine seq_nx (asg_nx (r := .d (.int (0 : Nat))) rfl rfl) (seq_nx (asg_nx (r := .d (.int (1 : Nat))) rfl rfl) (seq_nx (ρ1 := takE A (a + bs.length) (0 + 1 * val bs) (1 * 128 ^ bs.length)) e1 ?_))
    rw [val_app bs m hm, Nat.zero_add, Nat.one_mul, Nat.one_mul]
    have hw : (bs ≠ [] ∧ m = 0) ↔ (m = 0 ∧ 1 < 128 ^ bs.length) := by
      cases bs with
      | nil => simp
      | cons b bs =>
        have : 0 < 128 ^ bs.length := Nat.pow_pos (by omega)
        simp [Nat.pow_succ]; omega
    simp only [hw]
    generalize 128 ^ bs.length = W at *
    generalize val bs = V at *
    generalize a + bs.length = a' at *
    have c : ¬ (A.length : Int) ≤ ((a' : Nat) : Int) := by omega
    have k1 : (okM (W : Int) || okM (m : Int)) = true := by
      have : okM (m : Int) = true := by
        unfold okM
        rw [show (Int.natAbs (m : Int)) = m by omega]
        exact Nat.blt_eq.mpr (by omega)
      rw [this, Bool.or_true]
    have c' : ¬ A.length ≤ a' := by omega
    have k1' : okM (W : Int) = true ∨ okM (m : Int) = true := by simpa using k1
    by_cases m0 : m = 0
    · subst m0
      by_cases w1 : 1 < W
      · have w1' : (1 : Int) < W := by omega
        simp [c, c', at_bI h1, w1, w1']
      · have w1' : ¬ (1 : Int) < W := by omega
        simp [c, c', at_bI h1, w1, w1', k1']
    · have m0' : ¬ (m : Int) = 0 := by omega
      simp [c, c', at_bI h1, m0, m0', k1']
  exact runB_rt (hb _ rfl) rfl
/-- what was put is taken -/
theorem take_number_ok (A : List Nat) (a v : Nat) (post : List Nat) (hv : v < 128 ^ 20) (hA : A.drop a = grp v ++ post) : take_number_f [.list (A.map bI), .int a] = .ok (.d (.tuple [.int v, .int ((a + (grp v).length : Nat) : Int)])) := by
  obtain ⟨bs, m, e1, e2, e3, e4, e5, e6, e7⟩ := grp_split 19 v hv
  rw [e1, List.append_assoc] at hA
  have h := take_ok A a bs m post e2 e3 (by omega) hA
  rw [h, e5, if_neg, e1]
  · rw [List.length_append]; rfl
  · rintro ⟨q1, q2⟩
    by_cases c : 1 ≤ v
    · have := e4 c; omega
    · exact q1 (e7 (by omega))
/-! ### whole numbers -/
def zig (i : Int) : Nat := if 0 ≤ i then (2 * i).toNat else (-2 * i - 1).toNat
theorem zig_lt {i : Int} (h : i < 10 ^ 31 ∧ -10 ^ 31 < i) : zig i < 128 ^ 20 := by
  unfold zig
  split <;> omega
theorem put_integer_ok (i : Int) (h : i < 10 ^ 31 ∧ -10 ^ 31 < i) : put_integer_f [.int i] = .ok (.ol ((grp (zig i)).map bI)) := by
  have hp := put_number_ok (zig i) (zig_lt h)
  have k2 : okM (-2) = true := rfl
  unfold put_integer_f runB put_integer_b startE
  by_cases c : 0 ≤ i
  · have e : ((zig i : Nat) : Int) = 2 * i := by unfold zig; rw [if_pos c]; omega
    rw [e] at hp
    simp [c, hp]
  · have e : ((zig i : Nat) : Int) = -2 * i - 1 := by unfold zig; rw [if_neg c]; omega
    rw [e] at hp
    have c' : i < 0 := by omega
    simp [c, c', k2, ← Int.neg_mul] at hp ⊢
    simp [hp]
theorem take_integer_ok (A : List Nat) (a : Nat) (i : Int) (post : List Nat) (h : i < 10 ^ 31 ∧ -10 ^ 31 < i) (hA : A.drop a = grp (zig i) ++ post) : take_integer_f [.list (A.map bI), .int a] = .ok (.d (.tuple [.int i, .int ((a + (grp (zig i)).length : Nat) : Int)])) := by
  have h1 := take_number_ok A a (zig i) post (zig_lt h) hA
  generalize a + (grp (zig i)).length = e at *
  have hb : ∀ ρ, ρ = [some (.d (.list (A.map bI))), some (.d (.int a)), none, none, none] → take_integer_b ρ = .ok (.rt (.d (.tuple [.int i, .int (e : Nat)]))) := by
    rintro _ rfl
    unfold take_integer_b
    refine seq_nx (asg_nx (r := .d (.tuple [.int (zig i : Nat), .int (e : Nat)])) (by simp [h1]) rfl) ?_
    by_cases c : 0 ≤ i
    · have e1 : ((zig i : Nat) : Int) = 2 * i := by unfold zig; rw [if_pos c]; omega
      have e2 : ((zig i : Nat) : Int) % 2 = 0 := by omega
      have e3 : ((zig i : Nat) : Int) / 2 = i := by omega
      generalize ((zig i : Nat) : Int) = z at *
      simp [e2, e3]
    · have e1 : ((zig i : Nat) : Int) = -2 * i - 1 := by unfold zig; rw [if_neg c]; omega
      have e2 : ¬ ((zig i : Nat) : Int) % 2 = 0 := by omega
      have e3 : -((((zig i : Nat) : Int) + 1) / 2) = i := by omega
      generalize ((zig i : Nat) : Int) = z at *
      simp [e2, e3]
  exact runB_rt (hb _ rfl) rfl
/-! ### texts -/
abbrev sgD (n : Nat) : D := .str ⟨#[n]⟩
abbrev tx (l : List Nat) : Str := ⟨l.toArray⟩
theorem wch_lt {n : Nat} (h : n ∈ tl wch) : n < 128 := by
  have : ((tl wch).all fun n => decide (n < 128)) = true := by decide +kernel
  exact of_decide_eq_true (List.all_eq_true.mp this n h)
def encT (s : Str) : List Nat := grp s.length ++ tl s
theorem pow20 : 1000000 < 128 ^ 20 := by decide
theorem grp_small {n : Nat} (h : n < 128 ^ 20) : (grp n).length ≤ 20 := by
  obtain ⟨bs, m, e1, _, _, _, _, e6, _⟩ := grp_split 19 n h
  rw [e1, List.length_append]; simp; omega
theorem encT_len {s : Str} (h : s.length ≤ 1000) : (encT s).length ≤ 1020 := by
  unfold encT
  have := grp_small (n := s.length) (by have := pow20; omega)
  rw [List.length_append, ← len_tl]; omega
theorem put_text_loop (x : Option SV) : ∀ (cs A : List Nat), (∀ c ∈ cs, c ∈ tl wch) → A.length + cs.length ≤ 100000 → forF (setD 2) put_text_w1 (cs.map sgD) [x, some (.ol (A.map bI)), none] = .ok (.nx [x, some (.ol ((A ++ cs).map bI)), none])
  | [], A, _, _ => by rw [List.append_nil]; rfl
  | c :: cs, A, h, hl => by
    have hz := line16
    have hc := wch_lt (h c List.mem_cons_self)
    have ih := put_text_loop x cs (A ++ [c]) (fun d hd => h d (List.mem_cons_of_mem _ hd)) (by simp at hl ⊢; omega)
    have hp := put_number_ok c (by have := pow20; omega)
    rw [grp_lt hc] at hp
    have w : put_text_w1 [x, some (.ol (A.map bI)), some (.d (sgD c))] = .ok (.nx [x, some (.ol ((A ++ [c]).map bI)), none]) := by
      have o : ordS [.d (sgD c)] = .ok (.d (.int (c : Nat))) := (ordS_s _).trans (if_pos rfl)
      have l : A.length + 1 ≤ sizeLine := by simp at hl; omega
      unfold put_text_w1
      generalize sgD c = S at *
      simp [o, hp, addS, l]
    rw [List.map_cons]
    unfold forF
    simp only [setD_ap, ok_bind, List.set_cons_succ, List.set_cons_zero]
    rw [w]
    simp only [ok_bind]
    rw [ih, List.append_assoc]; rfl
theorem put_text_ok (s : Str) (h : WC s) (hl : s.length ≤ 1000) : put_text_f [.str s] = .ok (.ol ((encT s).map bI)) := by
  have hp := put_number_ok s.length (by have := pow20; omega)
  have hls := lenS_str s hl
  have g := grp_small (n := s.length) (by have := pow20; omega)
  have e := put_text_loop (some (.d (.str s))) (tl s) (grp s.length) h (by rw [← len_tl]; omega)
  have hb : ∀ ρ, ρ = [some (.d (.str s)), none, none] → put_text_b ρ = .ok (.rt (.ol ((encT s).map bI))) := by
    rintro _ rfl
    unfold put_text_b
    refine seq_nx (asg_nx (r := .ol ((grp s.length).map bI)) (by simp [hls, hp]) rfl) (seq_nx (ρ1 := [some (.d (.str s)), some (.ol ((encT s).map bI)), none]) ?_ rfl)
    rw [forS_ap]
    exact e
  exact runB_rt (hb _ rfl) rfl
theorem char_at_ok (c : Nat) (h : c ∈ tl wch) : char_at_f [.int c] = .ok (.d (sgD c)) := by
  have e := forF_find sgD (fun n : Nat => decide (n = c)) (fun n => .d (sgD n)) (k := setD 1) (b := char_at_w1) (ρ0 := [some (.d (.int c)), none]) (tl wch) (by
    intro n hn
    refine ⟨_, rfl, ?_⟩
    have o : ordS [.d (sgD n)] = .ok (.d (.int (n : Nat))) := (ordS_s _).trans (if_pos rfl)
    unfold char_at_w1
    by_cases q : n = c
    · subst q
      generalize sgD n = S at *
      simp [o]
    · have q' : ¬ (n : Int) = c := by omega
      generalize sgD n = S at *
      simp [o, q, q'])
  have f : (tl wch).find? (fun n : Nat => decide (n = c)) = some c := by
    cases q : (tl wch).find? (fun n : Nat => decide (n = c)) with
    | none =>
      have := List.find?_eq_none.mp q c h
      simp at this
    | some d =>
      have := List.find?_some q
      simp at this
      rw [this]
  rw [f] at e
  have hb : ∀ ρ, ρ = [some (.d (.int c)), none] → char_at_b ρ = .ok (.rt (.d (sgD c))) := by
    rintro _ rfl
    unfold char_at_b
    exact seq_rt (by rw [forS_ap]; exact e)
  exact runB_rt (hb _ rfl) rfl
abbrev txtE (A : List Nat) (a : Nat) (tk : D) (sz : Nat) (x : Str) : En := [some (.d (.list (A.map bI))), some (.d (.int a)), some (.d tk), some (.d (.int sz)), some (.d (.str x)), none]
theorem take_text_loop (A : List Nat) (sz : Nat) (hz : sz ≤ 1000) : ∀ (cs : List Nat) N a x tk post, (∀ c ∈ cs, c ∈ tl wch) → cs.length < N → x.length + cs.length = sz → A.drop a = cs ++ post → ∃ tk', whileF N take_text_t1 take_text_w1 (txtE A a tk sz x) = .ok (.nx (txtE A (a + cs.length) tk' sz (x ++ tx cs)))
  | [], N, a, x, tk, post, _, hN, hx, hA => by
    obtain ⟨N, rfl⟩ : ∃ N', N = N' + 1 := ⟨N - 1, by simp at hN; omega⟩
    have ls := lenS_str x (by simp at hx; omega)
    have t : take_text_t1 (txtE A a tk sz x) = .ok false := by
      have c : ¬ (x.length : Int) < sz := by simp at hx; omega
      have c' : ¬ x.length < sz := by omega
      unfold take_text_t1
      simp [ls, c, c']
    refine ⟨tk, ?_⟩
    unfold whileF
    simp only [t, ok_bind]
    have : x ++ tx [] = x := by
      refine ext_tl ?_
      rw [tl_append]; exact List.append_nil _
    rw [this]; rfl
  | c :: cs, N, a, x, tk, post, h, hN, hx, hA => by
    obtain ⟨N, rfl⟩ : ∃ N', N = N' + 1 := ⟨N - 1, by simp at hN; omega⟩
    have ls := lenS_str x (by simp at hx; omega)
    have hw := h c List.mem_cons_self
    have hc := wch_lt hw
    have ht := take_number_ok A a c (cs ++ post) (by have := pow20; omega) (by rw [grp_lt hc]; exact hA)
    rw [grp_lt hc] at ht
    have hch : char_at_f [.int c] = .ok (.d (.str ⟨#[c]⟩)) := char_at_ok c hw
    have t : take_text_t1 (txtE A a tk sz x) = .ok true := by
      have q : (x.length : Int) < sz := by simp at hx; omega
      have q' : x.length < sz := by simp at hx; omega
      unfold take_text_t1
      simp [ls, q, q']
    have ad := addS_s x ⟨#[c]⟩ (by simp at hx; omega) (by rw [len1]; omega)
    have w : take_text_w1 (txtE A a tk sz x) = .ok (.nx (txtE A (a + 1) (.tuple [.int c, .int ((a + 1 : Nat) : Int)]) sz (x ++ ⟨#[c]⟩))) := by
      have ht' : take_number_f [.list (A.map bI), .int a] = .ok (.d (.tuple [.int c, .int ((a + 1 : Nat) : Int)])) := ht
      unfold take_text_w1
      generalize (⟨#[c]⟩ : Str) = S at *
      simp [ht', hch, ad]
    obtain ⟨_, h2, _⟩ := at_drop hA
    have lx := len_app x ⟨#[c]⟩
    rw [len1] at lx
    obtain ⟨tk', ih⟩ := take_text_loop A sz hz cs N (a + 1) (x ++ ⟨#[c]⟩) (.tuple [.int c, .int ((a + 1 : Nat) : Int)]) post (fun d hd => h d (List.mem_cons_of_mem _ hd)) (by simp at hN; omega) (by simp at hx; omega) h2
    refine ⟨tk', ?_⟩
    unfold whileF
    simp only [t, w, ok_bind, if_true]
    rw [ih]
    have e1 : a + 1 + cs.length = a + (c :: cs).length := by simp; omega
    have e2 : x ++ ⟨#[c]⟩ ++ tx cs = x ++ tx (c :: cs) := by
      refine ext_tl ?_
      rw [tl_append, tl_append, tl_append, List.append_assoc]; rfl
    rw [e1, e2]
theorem take_text_ok (A : List Nat) (a : Nat) (s : Str) (post : List Nat) (h : WC s) (hl : s.length ≤ 1000) (hA : A.drop a = encT s ++ post) : take_text_f [.list (A.map bI), .int a] = .ok (.d (.tuple [.str s, .int ((a + (encT s).length : Nat) : Int)])) := by
  have hA1 : A.drop a = grp s.length ++ (tl s ++ post) := by rw [hA]; unfold encT; rw [List.append_assoc]
  have h1 := take_number_ok A a s.length (tl s ++ post) (by have := pow20; omega) hA1
  have hA2 : A.drop (a + (grp s.length).length) = tl s ++ post := by rw [← List.drop_drop, hA1]; simp
  have hle : (encT s).length = (grp s.length).length + (tl s).length := by unfold encT; rw [List.length_append]
  rw [hle, ← Nat.add_assoc]
  generalize a + (grp s.length).length = e at *
  obtain ⟨tk', h2⟩ := take_text_loop A s.length hl (tl s) 1000000 e "" (.tuple [.int s.length, .int (e : Nat)]) post h (by rw [← len_tl]; omega) (by rw [← len_tl]; show 0 + _ = _; omega) hA2
  have hs : ("" : Str) ++ tx (tl s) = s := by
    refine ext_tl ?_
    rw [tl_append]; rfl
  rw [hs] at h2
  have hb : ∀ ρ, ρ = [some (.d (.list (A.map bI))), some (.d (.int a)), none, none, none, none] → take_text_b ρ = .ok (.rt (.d (.tuple [.str s, .int ((e + (tl s).length : Nat) : Int)]))) := by
    rintro _ rfl
    unfold take_text_b
    refine seq_nx (asg_nx (r := .d (.tuple [.int s.length, .int (e : Nat)])) (by simp [h1]) rfl) (seq_nx (ρ1 := [some (.d (.list (A.map bI))), some (.d (.int a)), some (.d (.tuple [.int s.length, .int (e : Nat)])), none, none, none]) (by simp) (seq_nx (ρ1 := [some (.d (.list (A.map bI))), some (.d (.int (e : Nat))), some (.d (.tuple [.int s.length, .int (e : Nat)])), some (.d (.int s.length)), none, none]) (by simp) (seq_nx (asg_nx (r := .d (.str "")) rfl rfl) (seq_nx h2 ?_))))
    simp
  exact runB_rt (hb _ rfl) rfl
/-! ### labels -/
def encL1 (p : Str × Str) : List Nat := encT p.1 ++ encT p.2
def encL (l : Lab) : List Nat := grp l.length ++ l.flatMap encL1
def LabC (l : Lab) : Prop := ∀ p ∈ l, (WC p.1 ∧ p.1.length ≤ 1000) ∧ WC p.2 ∧ p.2.length ≤ 1000
theorem encL1_len {p : Str × Str} (h : (WC p.1 ∧ p.1.length ≤ 1000) ∧ WC p.2 ∧ p.2.length ≤ 1000) : (encL1 p).length ≤ 2040 := by
  unfold encL1
  have := encT_len h.1.2
  have := encT_len h.2.2
  rw [List.length_append]; omega
theorem encLs_len : ∀ l : Lab, LabC l → (l.flatMap encL1).length ≤ l.length * 2040
  | [], _ => Nat.le_refl _
  | p :: l, h => by
    have := encLs_len l fun q hq => h q (List.mem_cons_of_mem _ hq)
    have := encL1_len (h p List.mem_cons_self)
    rw [List.flatMap_cons, List.length_append, List.length_cons, Nat.add_mul]; omega
theorem put_labels_loop (x : Option SV) : ∀ (cs : Lab) (A : List Nat), LabC cs → A.length + (cs.flatMap encL1).length ≤ 1000000 → forF (tupG 2 (gsC (setD 2) (gsC (setD 3) gsN))) put_labels_w1 (cs.map encP) [x, some (.ol (A.map bI)), none, none] = .ok (.nx [x, some (.ol ((A ++ cs.flatMap encL1).map bI)), none, none])
  | [], A, _, _ => by rw [List.flatMap_nil, List.append_nil]; rfl
  | p :: cs, A, h, hl => by
    have hz := line16
    rw [List.flatMap_cons, List.length_append] at hl
    have hp := h p List.mem_cons_self
    have h1 := put_text_ok p.1 hp.1.1 hp.1.2
    have h2 := put_text_ok p.2 hp.2.1 hp.2.2
    have l1 := encL1_len hp
    have l0 : (encL1 p).length = (encT p.1).length + (encT p.2).length := by unfold encL1; rw [List.length_append]
    have ih := put_labels_loop x cs (A ++ encL1 p) (fun d hd => h d (List.mem_cons_of_mem _ hd)) (by rw [List.length_append]; omega)
    have w : put_labels_w1 [x, some (.ol (A.map bI)), some (.d (.str p.1)), some (.d (.str p.2))] = .ok (.nx [x, some (.ol ((A ++ encL1 p).map bI)), none, none]) := by
      have a1 : A.length + (encT p.1).length ≤ sizeLine := by omega
      have a2 : A.length + (encT p.1).length + (encT p.2).length ≤ sizeLine := by omega
      unfold put_labels_w1
      unfold encL1
      generalize encT p.1 = T1 at *
      generalize encT p.2 = T2 at *
      simp [h1, h2, addS, a1, a2]
    rw [List.map_cons]
    unfold forF
    have k : tupG 2 (gsC (setD 2) (gsC (setD 3) gsN)) (encP p) [x, some (.ol (A.map bI)), none, none] = .ok [x, some (.ol (A.map bI)), some (.d (.str p.1)), some (.d (.str p.2))] := rfl
    rw [k]
    simp only [ok_bind]
    rw [w]
    simp only [ok_bind]
    rw [ih, List.flatMap_cons, List.append_assoc]
theorem put_labels_ok (l : Lab) (h : LabC l) (hl : l.length ≤ 100) : put_labels_f [encB l] = .ok (.ol ((encL l).map bI)) := by
  have hp := put_number_ok l.length (by have := pow20; omega)
  have g := grp_small (n := l.length) (by have := pow20; omega)
  have ll := encLs_len l h
  have e := put_labels_loop (some (.d (encB l))) l (grp l.length) h (by omega)
  have hb : ∀ ρ, ρ = [some (.d (encB l)), none, none, none] → put_labels_b ρ = .ok (.rt (.ol ((encL l).map bI))) := by
    rintro _ rfl
    unfold put_labels_b
    have ln : lenS [.d (encB l)] = .ok (.d (.int l.length)) := by
      show lenS [.d (.tuple (l.map encP))] = _
      simp
    refine seq_nx (asg_nx (r := .ol ((grp l.length).map bI)) (by simp [ln, hp]) rfl) (seq_nx (ρ1 := [some (.d (encB l)), some (.ol ((encL l).map bI)), none, none]) ?_ rfl)
    rw [forS_ap]
    exact e
  exact runB_rt (hb _ rfl) rfl
abbrev labE (A : List Nat) (a : Nat) (tk : D) (sz : Nat) (P : Lab) : En := [some (.d (.list (A.map bI))), some (.d (.int a)), some (.d tk), some (.d (.int sz)), some (.ol (P.map encP)), none, none]
theorem take_labels_loop (A : List Nat) (sz : Nat) (tk : D) (hz : sz ≤ 1000) : ∀ (cs : Lab) N a (P : Lab) post, LabC cs → cs.length < N → P.length + cs.length = sz → A.drop a = cs.flatMap encL1 ++ post → whileF N take_labels_t1 take_labels_w1 (labE A a tk sz P) = .ok (.nx (labE A (a + (cs.flatMap encL1).length) tk sz (P ++ cs)))
  | [], N, a, P, post, _, hN, hx, hA => by
    obtain ⟨N, rfl⟩ : ∃ N', N = N' + 1 := ⟨N - 1, by simp at hN; omega⟩
    have t : take_labels_t1 (labE A a tk sz P) = .ok false := by
      have c : ¬ (P.length : Int) < sz := by simp at hx; omega
      have c' : ¬ P.length < sz := by simp at hx; omega
      unfold take_labels_t1
      simp [c, c']
    unfold whileF
    simp only [t, ok_bind]
    rw [List.append_nil]; rfl
  | p :: cs, N, a, P, post, h, hN, hx, hA => by
    have hzl := line16
    obtain ⟨N, rfl⟩ : ∃ N', N = N' + 1 := ⟨N - 1, by simp at hN; omega⟩
    have hp := h p List.mem_cons_self
    rw [List.flatMap_cons] at hA
    have hA1 : A.drop a = encT p.1 ++ (encT p.2 ++ (cs.flatMap encL1 ++ post)) := by rw [hA]; unfold encL1; simp
    have h1 := take_text_ok A a p.1 _ hp.1.1 hp.1.2 hA1
    have hA2 : A.drop (a + (encT p.1).length) = encT p.2 ++ (cs.flatMap encL1 ++ post) := by rw [← List.drop_drop, hA1]; simp
    have h2 := take_text_ok A (a + (encT p.1).length) p.2 _ hp.2.1 hp.2.2 hA2
    have hA3 : A.drop (a + (encT p.1).length + (encT p.2).length) = cs.flatMap encL1 ++ post := by rw [← List.drop_drop, hA2]; simp
    have t : take_labels_t1 (labE A a tk sz P) = .ok true := by
      have q : (P.length : Int) < sz := by simp at hx; omega
      have q' : P.length < sz := by simp at hx; omega
      unfold take_labels_t1
      simp [q, q']
    have w : take_labels_w1 (labE A a tk sz P) = .ok (.nx (labE A (a + (encT p.1).length + (encT p.2).length) tk sz (P ++ [p]))) := by
      have l : P.length < sizeLine := by simp at hx; omega
      unfold take_labels_w1 labE
      generalize a + (encT p.1).length = a1 at *
      generalize a1 + (encT p.2).length = a2 at *
      simp [h1, h2, l, encP]
    have ih := take_labels_loop A sz tk hz cs N (a + (encT p.1).length + (encT p.2).length) (P ++ [p]) post (fun d hd => h d (List.mem_cons_of_mem _ hd)) (by simp at hN; omega) (by simp at hx ⊢; omega) hA3
    unfold whileF
    simp only [t, w, ok_bind, if_true]
    rw [ih, List.flatMap_cons, List.length_append]
    have e1 : a + (encT p.1).length + (encT p.2).length + (cs.flatMap encL1).length = a + ((encL1 p).length + (cs.flatMap encL1).length) := by
      unfold encL1; rw [List.length_append]; omega
    rw [e1, List.append_assoc]; rfl
theorem take_labels_ok (A : List Nat) (a : Nat) (l : Lab) (post : List Nat) (h : LabC l) (hl : l.length ≤ 100) (hA : A.drop a = encL l ++ post) : take_labels_f [.list (A.map bI), .int a] = .ok (.d (.tuple [encB l, .int ((a + (encL l).length : Nat) : Int)])) := by
  have hA1 : A.drop a = grp l.length ++ (l.flatMap encL1 ++ post) := by rw [hA]; unfold encL; rw [List.append_assoc]
  have h1 := take_number_ok A a l.length _ (by have := pow20; omega) hA1
  have hA2 : A.drop (a + (grp l.length).length) = l.flatMap encL1 ++ post := by rw [← List.drop_drop, hA1]; simp
  have hle : (encL l).length = (grp l.length).length + (l.flatMap encL1).length := by unfold encL; rw [List.length_append]
  rw [hle, ← Nat.add_assoc]
  generalize a + (grp l.length).length = e at *
  have h2 := take_labels_loop A l.length (.tuple [.int l.length, .int (e : Nat)]) (by omega) l 1000000 e [] post h (by omega) (by simp) hA2
  rw [List.nil_append] at h2
  have hb : ∀ ρ, ρ = [some (.d (.list (A.map bI))), some (.d (.int a)), none, none, none, none, none] → take_labels_b ρ = .ok (.rt (.d (.tuple [encB l, .int ((e + (l.flatMap encL1).length : Nat) : Int)]))) := by
    rintro _ rfl
    unfold take_labels_b
    refine seq_nx (asg_nx (r := .d (.tuple [.int l.length, .int (e : Nat)])) (by simp [h1]) rfl) (seq_nx (ρ1 := [some (.d (.list (A.map bI))), some (.d (.int a)), some (.d (.tuple [.int l.length, .int (e : Nat)])), none, none, none, none]) (by simp) (seq_nx (ρ1 := [some (.d (.list (A.map bI))), some (.d (.int (e : Nat))), some (.d (.tuple [.int l.length, .int (e : Nat)])), some (.d (.int l.length)), none, none, none]) (by simp) (seq_nx (asg_nx (r := .ol []) rfl rfl) (seq_nx h2 ?_))))
    unfold encB
    simp
  exact runB_rt (hb _ rfl) rfl
/-! ### the law's looks at it -/
theorem grp_byte {n : Nat} (h : n < 128 ^ 20) : ∀ b ∈ grp n, b ≤ 255 := by
  obtain ⟨bs, m, e1, e2, e3, _⟩ := grp_split 19 n h
  intro b hb
  rw [e1] at hb
  rcases List.mem_append.mp hb with q | q
  · exact (e2 b q).2
  · rw [List.mem_singleton.mp q]; omega
theorem encT_byte {s : Str} (h : WC s) (hl : s.length ≤ 1000) : ∀ b ∈ encT s, b ≤ 255 := by
  intro b hb
  rcases List.mem_append.mp hb with q | q
  · exact grp_byte (by have := pow20; omega) b q
  · have := wch_lt (h b q); omega
theorem encL_byte {l : Lab} (h : LabC l) (hl : l.length ≤ 100) : ∀ b ∈ encL l, b ≤ 255 := by
  intro b hb
  rcases List.mem_append.mp hb with q | q
  · exact grp_byte (by have := pow20; omega) b q
  · obtain ⟨p, hp, q⟩ := List.mem_flatMap.mp q
    have := h p hp
    rcases List.mem_append.mp q with q | q
    · exact encT_byte this.1.1 this.1.2 b q
    · exact encT_byte this.2.1 this.2.2 b q
theorem eqS_nats (neg : Bool) (l l' : List Nat) : eqS neg (.ol (l.map bI)) (.ol (l'.map bI)) = .ok (.d (.bool (if neg then !decide (l = l') else decide (l = l')))) := by
  have h := eqS_ints neg (l.map fun n : Nat => (n : Int)) (l'.map fun n : Nat => (n : Int))
  rw [List.map_map, List.map_map] at h
  have e : ((l.map fun n : Nat => (n : Int)) = (l'.map fun n : Nat => (n : Int))) ↔ l = l' := by
    constructor
    · intro q
      exact (List.map_inj_right (fun a b hab => Int.ofNat.inj hab)).mp q
    · rintro rfl; rfl
  simp only [e] at h
  exact h
theorem eqS_natsDO (neg : Bool) (l l' : List Nat) : eqS neg (.d (.list (l.map bI))) (.ol (l'.map bI)) = .ok (.d (.bool (if neg then !decide (l = l') else decide (l = l')))) := eqS_nats neg l l'
/-! ### keys in order -/
theorem noLs_labs : ∀ l : Lab, noLs (l.map encP) = true
  | [] => rfl
  | p :: l => by
    show (noL (encP p) && noLs (l.map encP)) = true
    rw [noLs_labs l]; rfl
theorem noLs_ky : ∀ ks : List Ky, noLs (ks.map encKy) = true
  | [] => rfl
  | k :: ks => by
    show (noL (encKy k) && noLs (ks.map encKy)) = true
    rw [noLs_ky ks]
    show ((noLs (k.1.map encP) && (true && true)) && true) = true
    rw [noLs_labs]; rfl
def sortKy (ks : List Ky) : List Ky := ks.mergeSort fun a b => PySem.W.dataLe false id (encKy a) (encKy b)
theorem sortKS_ky (T : List Smp) (h : T.length < 1000000) : sortKS [.kd (tblN nkKy PyData.int T)] = .ok (.ol ((sortKy (T.map (·.1))).map encKy)) := by
  obtain ⟨qs, a, _, c⟩ := sorted_enc encKy alike_ky (fun _ => rfl) (fun l => by have := depth_ky l; omega) (T.map (·.1)) (by rw [List.length_map]; exact h)
  have k : keysV (.kd (tblN nkKy PyData.int T)) = some ((T.map (·.1)).map encKy) := by
    show some _ = _
    unfold tblN
    rw [List.map_map, List.map_map]
    congr 1
    exact List.map_congr_left fun s _ => data_nkKy s.1
  have a' : (if allAlike ((T.map (·.1)).map encKy) = true ∧ sortable ((T.map (·.1)).map encKy) = true ∧ (((T.map (·.1)).map encKy).all fun d => decide (d.depth ≤ 60)) = true ∧ ((T.map (·.1)).map encKy).length ≤ sizeLine then (R.ok (SV.ol (sortD ((T.map (·.1)).map encKy)))) else .bad) = .ok (.ol (qs.map encKy)) := a
  split at a'
  rotate_left
  · cases a'
  rename_i hc
  injection a' with a'
  injection a' with a'
  show (match keysV (.kd (tblN nkKy PyData.int T)) with
    | some ds => if noLs ds = true ∧ allAlike ds = true ∧ sortable ds = true ∧ (ds.all fun d => decide (d.depth ≤ 60)) = true then R.ok (SV.ol (sortD ds)) else .bad
    | none => .bad) = _
  rw [k]
  simp only
  rw [if_pos ⟨noLs_ky _, hc.1, hc.2.1, hc.2.2.1⟩, a', c]
  rfl
theorem sortKy_perm (ks : List Ky) : (sortKy ks).Perm ks := List.mergeSort_perm ks _
theorem sortKy_pw (ks : List Ky) : (sortKy ks).Pairwise fun a b => PySem.W.dataLe false id (encKy a) (encKy b) = true :=
  List.pairwise_mergeSort (fun a b c h1 h2 => dle_trans id (encKy a) (encKy b) (encKy c) h1 h2) (fun a b => dle_total id (encKy a) (encKy b)) ks
theorem dlt_key {a b : Smp} (ne : a.1 ≠ b.1) : PySem.W.dataLt (encS a) (encS b) = PySem.W.dataLt (encKy a.1) (encKy b.1) := by
  unfold encS encKy
  rw [dlt_cons (alike_lab a.1.1 b.1.1), dlt_cons (alike_lab a.1.1 b.1.1)]
  by_cases c : a.1.1 = b.1.1
  · rw [eqv_lab, decide_eq_true c, if_pos rfl, if_pos rfl, dlt_cons (x := .int a.1.2) (y := .int b.1.2) (xs := [.int a.2]) (ys := [.int b.2]) rfl, dlt_cons (x := .int a.1.2) (y := .int b.1.2) (xs := []) (ys := []) rfl]
    have c2 : a.1.2 ≠ b.1.2 := fun z => ne (Prod.ext c z)
    rw [eqv_int]
    have b2 : (a.1.2 == b.1.2) = false := beq_eq_false_iff_ne.mpr c2
    rw [b2]
    simp
  · rw [eqv_lab, decide_eq_false c, if_neg (by simp), if_neg (by simp)]
theorem leSm_of {a b : Smp} (h : PySem.W.dataLe false id (encKy a.1) (encKy b.1) = true) (ne : a.1 ≠ b.1) : leSm a b = true := by
  have e : leSm a b = !PySem.W.dataLt (encS b) (encS a) := rfl
  have h' : (!PySem.W.dataLt (encKy b.1) (encKy a.1)) = true := h
  rw [e, dlt_key (fun z => ne z.symm)]; exact h'
theorem leSm_anti {a b : Smp} (h1 : leSm a b = true) (h2 : leSm b a = true) : a = b := by
  by_cases c : a = b
  · exact c
  · exfalso
    have e1 : (!PySem.W.dataLt (encS b) (encS a)) = true := h1
    have e2 : (!PySem.W.dataLt (encS a) (encS b)) = true := h2
    have n : PySem.W.dataLt (encS a) (encS b) = false := by simpa using e2
    have t := dlt_tri (alike_s a b) (by rw [eqv_s]; exact decide_eq_false c) n
    rw [t] at e1; cases e1
def vw (T : List Smp) : List Smp := (sortKy (T.map (·.1))).map fun k => (k, (lkp T k).getD 0)
theorem vw_perm {T : List Smp} (nd : (T.map (·.1)).Nodup) : (vw T).Perm T := by
  have h : (vw T).Perm ((T.map (·.1)).map fun k => (k, (lkp T k).getD 0)) := (sortKy_perm _).map _
  rw [List.map_map] at h
  have e : T.map ((fun k => (k, (lkp T k).getD 0)) ∘ (·.1)) = T := by
    conv => rhs; rw [← List.map_id T]
    refine List.map_congr_left fun p hp => ?_
    show (p.1, (lkp T p.1).getD 0) = p
    rw [lkp_at nd hp]; rfl
  rwa [e] at h
theorem vw_ok {T : List Smp} (nd : (T.map (·.1)).Nodup) : ViewOk (vw T) := by
  have nd2 : (sortKy (T.map (·.1))).Nodup := (sortKy_perm _).nodup_iff.mpr nd
  refine ⟨?_, ((vw_perm nd).map _).nodup_iff.mpr nd⟩
  show List.Pairwise _ (List.map _ _)
  rw [List.pairwise_map]
  refine ((sortKy_pw (T.map (·.1))).and (List.nodup_iff_pairwise_ne.mp nd2)).imp fun h => ?_
  exact leSm_of h.1 h.2
theorem view_ext {V W : List Smp} (hV : ViewOk V) (hW : ViewOk W) (p : V.Perm W) : V = W := p.eq_of_pairwise (le := fun a b => leSm a b = true) (fun a b _ _ => leSm_anti) hV.pw hW.pw
/-! ### the first that contradicts -/
def confl : List Smp → List Smp → Nat → Option Nat
  | [], _, _ => none
  | s :: r, T, i => match lkp T s.1 with
    | some v => if v = s.2 then confl r T (i + 1) else some i
    | none => confl r (T ++ [s]) (i + 1)
def tabl : List Smp → List Smp → List Smp
  | [], T => T
  | s :: r, T => match lkp T s.1 with
    | some _ => tabl r T
    | none => tabl r (T ++ [s])
structure Kn (T P : List Smp) : Prop where
  nd : (T.map (·.1)).Nodup
  mem : ∀ s ∈ T, s ∈ P
  all : ∀ s ∈ P, lkp T s.1 = some s.2
theorem Kn.same {T P : List Smp} {s : Smp} (h : Kn T P) (e : lkp T s.1 = some s.2) : Kn T (P ++ [s]) :=
  ⟨h.nd, fun q hq => List.mem_append_left _ (h.mem q hq), fun q hq => by
    rcases List.mem_append.mp hq with z | z
    · exact h.all q z
    · simp at z; subst z; exact e⟩
theorem Kn.new {T P : List Smp} {s : Smp} (h : Kn T P) (e : lkp T s.1 = none) : Kn (T ++ [s]) (P ++ [s]) := by
  refine ⟨?_, fun q hq => ?_, fun q hq => ?_⟩
  · have := putF_nodup (a := s.1) (b := s.2) h.nd
    rwa [putF_new s.2 e] at this
  · rcases List.mem_append.mp hq with z | z
    · exact List.mem_append_left _ (h.mem q z)
    · exact List.mem_append_right _ z
  · show lkp (T ++ [(s.1, s.2)]) q.1 = _
    rw [lkp_snoc s.1 q.1 s.2 T e]
    rcases List.mem_append.mp hq with z | z
    · have := h.all q z
      by_cases c : q.1 = s.1
      · rw [c, e] at this; cases this
      · rw [if_neg c]; exact this
    · simp at z; subst z; rw [if_pos rfl]
theorem tabl_kn : ∀ (S T P : List Smp) (i : Nat), Kn T P → confl S T i = none → Kn (tabl S T) (P ++ S)
  | [], T, P, i, h, _ => by simpa [tabl] using h
  | s :: r, T, P, i, h, e => by
    unfold confl at e
    unfold tabl
    rw [show P ++ s :: r = (P ++ [s]) ++ r by simp]
    cases q : lkp T s.1 with
    | none => rw [q] at e; exact tabl_kn r _ _ (i + 1) (h.new q) e
    | some v =>
      rw [q] at e
      dsimp only at e
      split at e
      · rename_i hv
        exact tabl_kn r _ _ (i + 1) (h.same (by rw [q, hv])) e
      · cases e
def Cons (S : List Smp) : Prop := ∀ p ∈ S, ∀ q ∈ S, p.1 = q.1 → p.2 = q.2
theorem Kn.cons {T P : List Smp} (h : Kn T P) : Cons P := fun p hp q hq e => by
  have a := h.all p hp
  have b := h.all q hq
  rw [e, b] at a
  injection a with a; exact a.symm
theorem confl_none : ∀ (S T P : List Smp) (i : Nat), Kn T P → Cons (P ++ S) → confl S T i = none
  | [], _, _, _, _, _ => rfl
  | s :: r, T, P, i, h, c => by
    rw [show P ++ s :: r = (P ++ [s]) ++ r by simp] at c
    unfold confl
    cases q : lkp T s.1 with
    | none => exact confl_none r _ _ (i + 1) (h.new q) c
    | some v =>
      have hm := h.mem _ (lkp_mem q)
      have hv : v = s.2 := c (s.1, v) (by simp [hm]) s (by simp) rfl
      dsimp only
      rw [if_pos hv]
      exact confl_none r _ _ (i + 1) (h.same (by rw [q, hv])) c
theorem kn_nil : Kn [] [] := ⟨List.nodup_nil, fun _ h => (nomatch h), fun _ h => (nomatch h)⟩
theorem tabl_len : ∀ S T : List Smp, (tabl S T).length ≤ T.length + S.length
  | [], T => Nat.le_refl _
  | s :: r, T => by
    unfold tabl
    cases lkp T s.1 with
    | none => have := tabl_len r (T ++ [s]); simp at this ⊢; omega
    | some _ => have := tabl_len r T; simp; omega
/-- the views of two rows with the same samples are one -/
theorem vw_same {S S' : List Smp} {i j : Nat} (e : confl S [] i = none) (e' : confl S' [] j = none) (h : ∀ s, s ∈ S ↔ s ∈ S') : vw (tabl S []) = vw (tabl S' []) := by
  have k := tabl_kn S [] [] i kn_nil e
  have k' := tabl_kn S' [] [] j kn_nil e'
  rw [List.nil_append] at k k'
  have nodup : ∀ {T : List Smp}, (T.map (·.1)).Nodup → T.Nodup := fun {T} h => by
    rw [List.nodup_iff_pairwise_ne, List.pairwise_map] at h
    rw [List.nodup_iff_pairwise_ne]
    exact h.imp fun h z => h (by rw [z])
  refine view_ext (vw_ok k.nd) (vw_ok k'.nd) ((vw_perm k.nd).trans (List.Perm.trans ?_ (vw_perm k'.nd).symm))
  refine (List.perm_ext_iff_of_nodup (nodup k.nd) (nodup k'.nd)).mpr fun a => ?_
  exact ⟨fun ha => lkp_mem (k'.all a ((h a).mp (k.mem a ha))), fun ha => lkp_mem (k.all a ((h a).mpr (k'.mem a ha)))⟩
/-! ### view_of -/
def prs : Nat → List Smp → List D
  | _, [] => []
  | i, s :: r => .tuple [.int (i : Nat), encS s] :: prs (i + 1) r
theorem prs_zip : ∀ (S : List Smp) (i : Nat), (List.range' i S.length).zipWith (fun i x => PyData.tuple [.int (i : Nat), x]) (S.map encS) = prs i S
  | [], _ => rfl
  | s :: S, i => by
    rw [List.length_cons, List.range'_succ, List.map_cons, List.zipWith_cons_cons, prs_zip S (i + 1)]; rfl
theorem putF_same {T : List Smp} {k : Ky} {v : Int} (nd : (T.map (·.1)).Nodup) (e : lkp T k = some v) : putF T k v = T := by
  unfold Pl.putF
  rw [e]
  show T.map (fun q => if q.1 = k then (q.1, v) else q) = T
  conv => rhs; rw [← List.map_id T]
  refine List.map_congr_left fun q hq => ?_
  by_cases c : q.1 = k
  · have := lkp_at nd hq
    rw [c, e] at this
    injection this with this
    rw [if_pos c, this]; rfl
  · rw [if_neg c]; rfl
/-! ### series -/
abbrev Row := Lab × List (Int × Int)
def ptD (p : Int × Int) : D := .tuple [.int p.1, .int p.2]
def rwE (r : Row) : List D × List D := ([encB r.1], r.2.map ptD)
def addR (W : List Row) (s : Smp) : List Row := match W.getLast? with
  | some r => if r.1 = s.1.1 then W.dropLast ++ [(r.1, r.2 ++ [(s.1.2, s.2)])] else W ++ [(s.1.1, [(s.1.2, s.2)])]
  | none => [(s.1.1, [(s.1.2, s.2)])]
def flatR (W : List Row) : List Smp := W.flatMap fun r => r.2.map fun p => ((r.1, p.1), p.2)
theorem flat_add (W : List Row) (s : Smp) : flatR (addR W s) = flatR W ++ [s] := by
  unfold addR
  rcases List.eq_nil_or_concat W with rfl | ⟨A, r, rfl⟩
  · rfl
  · rw [List.concat_eq_append, List.getLast?_concat]
    simp only
    by_cases c : r.1 = s.1.1
    · rw [if_pos c, List.dropLast_concat]
      unfold flatR
      rw [List.flatMap_append, List.flatMap_append, List.append_assoc]
      congr 1
      simp [c]
    · rw [if_neg c]
      unfold flatR
      rw [List.flatMap_append]
      simp
theorem flat_fold (V : List Smp) : ∀ W : List Row, flatR (V.foldl addR W) = flatR W ++ V := by
  induction V with
  | nil => intro W; simp
  | cons s V ih => intro W; rw [List.foldl_cons, ih, flat_add, List.append_assoc]; rfl
abbrev serE (VV : D) (a2 a3 a4 : Option SV) : En := [some (.d VV), none, a2, a3, a4]
theorem rw_last (A : List Row) (r : Row) : ((A ++ [r]).map rwE).getLast? = some (rwE r) := by rw [List.map_append]; exact List.getLast?_concat
theorem rw_drop (A : List Row) (r : Row) : ((A ++ [r]).map rwE).dropLast = A.map rwE := by rw [List.map_append]; exact List.dropLast_concat
theorem push_ok (VV : D) (A : List Row) (r : Row) (a2 : Option SV) (t v : Int) (hl : r.2.length ≤ 1000) : pushN (una negS (kon (.int 1))) 1 (dispT (conA (getV 3) (conA (getV 4) nilA))) (serE VV a2 (some (.d (.int t))) (some (.d (.int v)))) ((A ++ [r]).map rwE) = .ok (serE VV a2 (some (.d (.int t))) (some (.d (.int v))), (A ++ [(r.1, r.2 ++ [(t, v)])]).map rwE) := by
  have hz := line16
  have e2 : (A ++ [(r.1, r.2 ++ [(t, v)])]).map rwE = A.map rwE ++ [([encB r.1], r.2.map ptD ++ [.tuple [.int t, .int v]])] := by
    rw [List.map_append]
    unfold rwE ptD
    simp
  have l : (r.2.map ptD).length < sizeLine := by rw [List.length_map]; omega
  unfold pushN
  rw [rw_last, rw_drop, e2]
  unfold rwE
  generalize A.map rwE = AA
  generalize r.2.map ptD = PP at *
  generalize encB r.1 = X
  simp [l]
theorem new_ok (VV : D) (W : List Row) (l : Lab) (t v : Option SV) (hl : W.length ≤ 1000) : newN (getV 2) nilA (serE VV (some (.d (encB l))) t v) (W.map rwE) = .ok (serE VV (some (.d (encB l))) t v, (W ++ [(l, [])]).map rwE) := by
  have hz := line16
  have e2 : (W ++ [((l, []) : Row)]).map rwE = W.map rwE ++ [([encB l], [])] := by
    rw [List.map_append]; rfl
  have hl' : (W.map rwE).length < sizeLine := by rw [List.length_map]; omega
  unfold newN
  rw [e2]
  generalize W.map rwE = WW at *
  generalize encB l = X
  simp [hl']
theorem n1_ok (VV : D) (W : List Row) (s : Smp) (hl : W.length ≤ 1000) (hr : ∀ r ∈ W, r.2.length ≤ 1000) : series_of_n1 (serE VV (some (.d (encB s.1.1))) (some (.d (.int s.1.2))) (some (.d (.int s.2)))) (W.map rwE) = .ok (serE VV none none none, (addR W s).map rwE) := by
  have kill : ∀ (F : En → Rw → R (En × Rw)) (W' : List Row), F (serE VV (some (.d (encB s.1.1))) (some (.d (.int s.1.2))) (some (.d (.int s.2)))) (W.map rwE) = .ok (serE VV (some (.d (encB s.1.1))) (some (.d (.int s.1.2))) (some (.d (.int s.2))), W'.map rwE) → killN 1 [2, 3, 4] F (serE VV (some (.d (encB s.1.1))) (some (.d (.int s.1.2))) (some (.d (.int s.2)))) (W.map rwE) = .ok (serE VV none none none, W'.map rwE) := fun F W' e => by
    unfold killN
    rw [e]; rfl
  unfold series_of_n1
  refine kill _ _ ?_
  have seqk : ∀ (W : List Row) (f g : En → Rw → R (En × Rw)) (W1 : List Row) (z : R (En × Rw)), f (serE VV (some (.d (encB s.1.1))) (some (.d (.int s.1.2))) (some (.d (.int s.2)))) (W.map rwE) = .ok (serE VV (some (.d (encB s.1.1))) (some (.d (.int s.1.2))) (some (.d (.int s.2))), W1.map rwE) → g (serE VV (some (.d (encB s.1.1))) (some (.d (.int s.1.2))) (some (.d (.int s.2)))) (W1.map rwE) = z → seqN f g (serE VV (some (.d (encB s.1.1))) (some (.d (.int s.1.2))) (some (.d (.int s.2)))) (W.map rwE) = z := fun W f g W1 z e e' => by
    unfold seqN
    rw [e]; exact e'
  rcases List.eq_nil_or_concat W with rfl | ⟨A, r, rfl⟩
  · refine seqk [] _ _ [(s.1.1, [])] _ ?_ ?_
    · unfold ifN orN notN' anyN
      exact new_ok VV [] s.1.1 _ _ (by simp)
    · exact push_ok VV [] (s.1.1, []) _ _ _ (by simp)
  · rw [List.concat_eq_append] at hl hr ⊢
    have e := eqS_lab' true r.1 s.1.1
    have i0 : lastN (una negS (kon (.int 1))) 0 (serE VV (some (.d (encB s.1.1))) (some (.d (.int s.1.2))) (some (.d (.int s.2)))) ((A ++ [r]).map rwE) = .ok (.d (encB r.1)) := by
      unfold lastN
      rw [rw_last]
      unfold rwE
      generalize encB r.1 = X
      simp
    have an : anyN (serE VV (some (.d (encB s.1.1))) (some (.d (.int s.1.2))) (some (.d (.int s.2)))) ((A ++ [r]).map rwE) = .ok true := by
      unfold anyN
      rw [List.map_append]
      simp
    have tt : orN (notN' anyN) (asN (binN (eqS true) (lastN (una negS (kon (.int 1))) 0) (fun ρ _ => (peek 2) ρ))) (serE VV (some (.d (encB s.1.1))) (some (.d (.int s.1.2))) (some (.d (.int s.2)))) ((A ++ [r]).map rwE) = .ok (!decide (r.1 = s.1.1)) := by
      unfold orN notN' asN binN
      rw [an, i0]
      generalize encB r.1 = X at *
      generalize encB s.1.1 = Y at *
      simp [e]
    unfold addR
    rw [List.getLast?_concat]
    simp only
    by_cases c : r.1 = s.1.1
    · rw [if_pos c, List.dropLast_concat]
      refine seqk (A ++ [r]) _ _ (A ++ [r]) _ ?_ (push_ok VV A r _ _ _ (hr r (by simp)))
      unfold ifN
      rw [tt, decide_eq_true c]; rfl
    · rw [if_neg c]
      refine seqk (A ++ [r]) _ _ (A ++ [r] ++ [(s.1.1, [])]) _ ?_ (push_ok VV (A ++ [r]) (s.1.1, []) _ _ _ (by simp))
      unfold ifN
      rw [tt, decide_eq_false c]
      exact new_ok VV (A ++ [r]) s.1.1 _ _ hl
theorem add_len (W : List Row) (s : Smp) (n : Nat) (hl : W.length ≤ n) (hr : ∀ r ∈ W, r.2.length ≤ n) : (addR W s).length ≤ n + 1 ∧ ∀ r ∈ addR W s, r.2.length ≤ n + 1 := by
  unfold addR
  rcases List.eq_nil_or_concat W with rfl | ⟨A, r, rfl⟩
  · exact ⟨by simp, fun r h => by simp at h; subst h; simp⟩
  · rw [List.concat_eq_append] at hl hr ⊢
    rw [List.getLast?_concat]
    simp only
    by_cases c : r.1 = s.1.1
    · rw [if_pos c, List.dropLast_concat]
      refine ⟨by simp at hl ⊢; omega, fun q h => ?_⟩
      rcases List.mem_append.mp h with h | h
      · have := hr q (by simp [h]); omega
      · rw [List.mem_singleton.mp h]
        have := hr r (by simp)
        simp; omega
    · rw [if_neg c]
      refine ⟨by simp at hl ⊢; omega, fun q h => ?_⟩
      rcases List.mem_append.mp h with h | h
      · have := hr q h; omega
      · rw [List.mem_singleton.mp h]; simp
theorem ser_loop (VV : D) : ∀ (V : List Smp) (W : List Row) (n : Nat), W.length ≤ n → (∀ r ∈ W, r.2.length ≤ n) → n + V.length ≤ 1000 → forN 1 (tupG 3 (gsC (setD 2) (gsC (setD 3) (gsC (setD 4) gsN)))) series_of_n1 (V.map encS) (serE VV none none none) (W.map rwE) = .ok (serE VV none none none, (V.foldl addR W).map rwE)
  | [], W, n, _, _, _ => rfl
  | s :: V, W, n, hl, hr, hn => by
    rw [List.length_cons] at hn
    have h := add_len W s n hl hr
    have ih := ser_loop VV V (addR W s) (n + 1) h.1 h.2 (by omega)
    have st := n1_ok VV W s (by omega) (fun r hr' => by have := hr r hr'; omega)
    rw [List.map_cons]
    unfold forN
    have kk : tupG 3 (gsC (setD 2) (gsC (setD 3) (gsC (setD 4) gsN))) (encS s) (serE VV none none none) = .ok (serE VV (some (.d (encB s.1.1))) (some (.d (.int s.1.2))) (some (.d (.int s.2)))) := rfl
    rw [kk]
    have dd : deadB (serE VV (some (.d (encB s.1.1))) (some (.d (.int s.1.2))) (some (.d (.int s.2)))) 1 = true := rfl
    simp only [dd, if_true, st, ok_bind]
    exact ih
def rowE (r : Row) : D := .tuple [encB r.1, .list (r.2.map ptD)]
theorem series_of_ok (V : List Smp) (hV : V.length ≤ 1000) : series_of_f [.list (V.map encS)] = .ok (.ol ((V.foldl addR []).map rowE)) := by
  have e := ser_loop (.list (V.map encS)) V [] 0 (by simp) (fun _ h => nomatch h) (by omega)
  have hb : ∀ ρ, ρ = [some (.d (.list (V.map encS))), none, none, none, none] → series_of_b ρ = .ok (.rt (.ol ((V.foldl addR []).map rowE))) := by
    rintro _ rfl
    unfold series_of_b
    refine seq_nx (asg_nx (r := .ol []) rfl rfl) (seq_nx (ρ1 := [some (.d (.list (V.map encS))), some (.ol ((V.foldl addR []).map rowE)), none, none, none]) ?_ rfl)
    show (seqD (getV 0) _ >>= fun xs => forN 1 _ series_of_n1 xs (serE (.list (V.map encS)) none none none) (List.map rwE []) >>= _) = _
    have e0 : seqD (getV 0) [some (.d (.list (V.map encS))), some (.ol []), none, none, none] = .ok (V.map encS) := rfl
    show (seqD (getV 0) [some (.d (.list (V.map encS))), some (.ol []), none, none, none] >>= _) = _
    rw [e0, ok_bind, e, ok_bind, List.map_map]
    rfl
  exact runB_rt (hb _ rfl) rfl
/-! ### spread -/
theorem spread_in (SS X Y : D) (l : Lab) : ∀ (ps : List (Int × Int)) (O : List Smp), O.length + ps.length ≤ 1000 → forF (tupG 2 (gsC (setD 4) (gsC (setD 5) gsN))) spread_w1 (ps.map ptD) [some (.d SS), some (.ol (O.map encS)), some (.d (encB l)), some (.d Y), none, none] = .ok (.nx [some (.d SS), some (.ol ((O ++ ps.map fun p => ((l, p.1), p.2)).map encS)), some (.d (encB l)), some (.d Y), none, none])
  | [], O, _ => by
    show _ = R.ok (Fl.nx [some (.d SS), some (.ol ((O ++ []).map encS)), some (.d (encB l)), some (.d Y), none, none])
    rw [List.append_nil]; rfl
  | p :: ps, O, hl => by
    have hz := line16
    rw [List.length_cons] at hl
    have ih := spread_in SS X Y l ps (O ++ [((l, p.1), p.2)]) (by simp; omega)
    have w : spread_w1 [some (.d SS), some (.ol (O.map encS)), some (.d (encB l)), some (.d Y), some (.d (.int p.1)), some (.d (.int p.2))] = .ok (.nx [some (.d SS), some (.ol ((O ++ [((l, p.1), p.2)]).map encS)), some (.d (encB l)), some (.d Y), none, none]) := by
      have e : (O ++ [(((l, p.1), p.2) : Smp)]).map encS = O.map encS ++ [.tuple [encB l, .int p.1, .int p.2]] := by rw [List.map_append]; rfl
      have ln : (O.map encS).length < sizeLine := by rw [List.length_map]; omega
      rw [e]
      unfold spread_w1
      generalize O.map encS = OO at *
      generalize encB l = L
      simp [ln]
    rw [List.map_cons]
    unfold forF
    have k : tupG 2 (gsC (setD 4) (gsC (setD 5) gsN)) (ptD p) [some (.d SS), some (.ol (O.map encS)), some (.d (encB l)), some (.d Y), none, none] = .ok [some (.d SS), some (.ol (O.map encS)), some (.d (encB l)), some (.d Y), some (.d (.int p.1)), some (.d (.int p.2))] := rfl
    rw [k]
    simp only [w, ok_bind]
    rw [ih, List.append_assoc]; rfl
theorem spread_out (SS : D) : ∀ (W : List Row) (O : List Smp), O.length + (flatR W).length ≤ 1000 → forF (tupG 2 (gsC (setD 2) (gsC (setD 3) gsN))) spread_w2 (W.map rowE) [some (.d SS), some (.ol (O.map encS)), none, none, none, none] = .ok (.nx [some (.d SS), some (.ol ((O ++ flatR W).map encS)), none, none, none, none])
  | [], O, _ => by
    show _ = R.ok (Fl.nx [some (.d SS), some (.ol ((O ++ []).map encS)), none, none, none, none])
    rw [List.append_nil]; rfl
  | r :: W, O, hl => by
    have ef : flatR (r :: W) = (r.2.map fun p => ((r.1, p.1), p.2)) ++ flatR W := by unfold flatR; rw [List.flatMap_cons]
    rw [ef, List.length_append, List.length_map] at hl
    have e1 := spread_in SS .none (.list (r.2.map ptD)) r.1 r.2 O (by omega)
    have ih := spread_out SS W (O ++ r.2.map fun p => ((r.1, p.1), p.2)) (by simp; omega)
    have w : spread_w2 [some (.d SS), some (.ol (O.map encS)), some (.d (encB r.1)), some (.d (.list (r.2.map ptD))), none, none] = .ok (.nx [some (.d SS), some (.ol ((O ++ r.2.map fun p => ((r.1, p.1), p.2)).map encS)), none, none, none, none]) := by
      unfold spread_w2
      exact kill_nx (forS_lst (xs := r.2.map ptD) rfl e1) rfl
    rw [List.map_cons]
    unfold forF
    have k : tupG 2 (gsC (setD 2) (gsC (setD 3) gsN)) (rowE r) [some (.d SS), some (.ol (O.map encS)), none, none, none, none] = .ok [some (.d SS), some (.ol (O.map encS)), some (.d (encB r.1)), some (.d (.list (r.2.map ptD))), none, none] := rfl
    rw [k]
    simp only [w, ok_bind]
    rw [ih, ef, List.append_assoc]
theorem spread_ok (W : List Row) (hl : (flatR W).length ≤ 1000) : spread_f [.list (W.map rowE)] = .ok (.ol ((flatR W).map encS)) := by
  have e := spread_out (.list (W.map rowE)) W [] (by simpa using hl)
  have hb : ∀ ρ, ρ = [some (.d (.list (W.map rowE))), none, none, none, none, none] → spread_b ρ = .ok (.rt (.ol ((flatR W).map encS))) := by
    rintro _ rfl
    unfold spread_b
    exact seq_nx (asg_nx (r := .ol []) rfl rfl) (seq_nx (forS_lst (xs := W.map rowE) rfl e) rfl)
  exact runB_rt (hb _ rfl) rfl
/-! ### the rows of a view -/
def leL (a b : Lab) : Bool := PySem.W.dataLe false id (encB a) (encB b)
theorem leL_anti {a b : Lab} (h1 : leL a b = true) (h2 : leL b a = true) : a = b := by
  by_cases c : a = b
  · exact c
  · exfalso
    have e1 : (!PySem.W.dataLt (encB b) (encB a)) = true := h1
    have e2 : (!PySem.W.dataLt (encB a) (encB b)) = true := h2
    have n : PySem.W.dataLt (encB a) (encB b) = false := by simpa using e2
    have t := dlt_tri (alike_lab a b) (by rw [eqv_lab]; exact decide_eq_false c) n
    rw [t] at e1; cases e1
theorem leL_trans {a b c : Lab} (h1 : leL a b = true) (h2 : leL b c = true) : leL a c = true := dle_trans id (encB a) (encB b) (encB c) h1 h2
theorem leL_refl (a : Lab) : leL a a = true := by
  have := dle_total id (encB a) (encB a)
  simpa [leL] using this
theorem leL_of {a b : Smp} (h : leSm a b = true) : leL a.1.1 b.1.1 = true := by
  by_cases c : a.1.1 = b.1.1
  · rw [c]; exact leL_refl _
  · have e : (!PySem.W.dataLt (encS b) (encS a)) = true := h
    show (!PySem.W.dataLt (encB b.1.1) (encB a.1.1)) = true
    unfold encS at e
    rw [dlt_cons (alike_lab b.1.1 a.1.1), eqv_lab, decide_eq_false (fun z => c z.symm)] at e
    simpa using e
structure RowsG (P : List Smp) (W : List Row) : Prop where
  nd : (W.map (·.1)).Nodup
  pw : (W.map (·.1)).Pairwise fun a b => leL a b = true
  ne : ∀ r ∈ W, r.2 ≠ []
  sr : ∀ r ∈ W, ∃ s ∈ P, s.1.1 = r.1
theorem rowsG_add {P : List Smp} {W : List Row} {s : Smp} (h : RowsG P W) (hs : ∀ p ∈ P, leSm p s = true) : RowsG (P ++ [s]) (addR W s) := by
  obtain ⟨h1, h2, h3, h4⟩ := h
  unfold addR
  rcases List.eq_nil_or_concat W with rfl | ⟨A, r, rfl⟩
  · exact ⟨by simp, by simp, fun r h => by simp at h; subst h; simp, fun r h => by simp at h; subst h; exact ⟨s, by simp, rfl⟩⟩
  · rw [List.concat_eq_append] at h1 h2 h3 h4 ⊢
    rw [List.getLast?_concat]
    simp only
    by_cases c : r.1 = s.1.1
    · rw [if_pos c, List.dropLast_concat]
      have em : (A ++ [(r.1, r.2 ++ [(s.1.2, s.2)])]).map (·.1) = (A ++ [r]).map (·.1) := by simp
      refine ⟨by rw [em]; exact h1, by rw [em]; exact h2, fun q hq => ?_, fun q hq => ?_⟩
      · rcases List.mem_append.mp hq with hq | hq
        · exact h3 q (by simp [hq])
        · rw [List.mem_singleton.mp hq]; simp
      · rcases List.mem_append.mp hq with hq | hq
        · obtain ⟨p, hp, e⟩ := h4 q (by simp [hq])
          exact ⟨p, by simp [hp], e⟩
        · rw [List.mem_singleton.mp hq]
          exact ⟨s, by simp, c.symm⟩
    · rw [if_neg c]
      have le : ∀ q ∈ A ++ [r], leL q.1 s.1.1 = true := fun q hq => by
        obtain ⟨p, hp, e⟩ := h4 q hq
        rw [← e]; exact leL_of (hs p hp)
      refine ⟨?_, ?_, fun q hq => ?_, fun q hq => ?_⟩
      · rw [List.map_append, List.nodup_append]
        refine ⟨h1, by simp, fun a ha b hb z => ?_⟩
        have hb' : b = s.1.1 := by simpa using hb
        obtain ⟨q, hq, rfl⟩ := List.mem_map.mp ha
        have qs : q.1 = s.1.1 := z.trans hb'
        have lr := le r (by simp)
        rcases List.mem_append.mp hq with hq | hq
        · rw [List.map_append, List.pairwise_append] at h2
          have lq := h2.2.2 q.1 (List.mem_map.mpr ⟨q, hq, rfl⟩) r.1 (by simp)
          rw [qs] at lq
          exact c (leL_anti lr lq)
        · rw [List.mem_singleton.mp hq] at qs
          exact c qs
      · rw [List.map_append, List.pairwise_append]
        refine ⟨h2, by simp, fun a ha b hb => ?_⟩
        have hb' : b = s.1.1 := by simpa using hb
        obtain ⟨q, hq, rfl⟩ := List.mem_map.mp ha
        rw [hb']; exact le q hq
      · rcases List.mem_append.mp hq with hq | hq
        · exact h3 q hq
        · rw [List.mem_singleton.mp hq]; simp
      · rcases List.mem_append.mp hq with hq | hq
        · obtain ⟨p, hp, e⟩ := h4 q hq
          exact ⟨p, by simp [hp], e⟩
        · rw [List.mem_singleton.mp hq]
          exact ⟨s, by simp, rfl⟩
theorem rowsG_fold : ∀ (V P : List Smp) (W : List Row), RowsG P W → (P ++ V).Pairwise (fun a b => leSm a b = true) → RowsG (P ++ V) (V.foldl addR W)
  | [], P, W, h, _ => by rw [List.append_nil]; exact h
  | s :: V, P, W, h, hp => by
    have e : P ++ s :: V = (P ++ [s]) ++ V := by simp
    rw [e] at hp ⊢
    have hs : ∀ p ∈ P, leSm p s = true := fun p hm => (List.pairwise_append.mp (List.pairwise_append.mp hp).1).2.2 p hm s (by simp)
    exact rowsG_fold V (P ++ [s]) (addR W s) (rowsG_add h hs) hp
theorem flat_filter : ∀ (W : List Row) (r : Row), (W.map (·.1)).Nodup → r ∈ W → (flatR W).filter (fun s => decide (s.1.1 = r.1)) = r.2.map fun p => ((r.1, p.1), p.2)
  | q :: W, r, nd, h => by
    rw [List.map_cons, List.nodup_cons] at nd
    have ef : flatR (q :: W) = (q.2.map fun p => ((q.1, p.1), p.2)) ++ flatR W := by unfold flatR; rw [List.flatMap_cons]
    rw [ef, List.filter_append]
    have inW' : ∀ s ∈ flatR W, s.1.1 ∈ W.map (·.1) := fun s hs => by
      obtain ⟨x, hx, hq⟩ := List.mem_flatMap.mp hs
      obtain ⟨p, _, rfl⟩ := List.mem_map.mp hq
      exact List.mem_map.mpr ⟨x, hx, rfl⟩
    rcases List.mem_cons.mp h with rfl | h
    · rw [List.filter_eq_self.mpr, List.filter_eq_nil_iff.mpr, List.append_nil]
      · intro s hs z
        exact nd.1 ((of_decide_eq_true z) ▸ inW' s hs)
      · intro s hs
        obtain ⟨p, _, rfl⟩ := List.mem_map.mp hs
        simp
    · rw [List.filter_eq_nil_iff.mpr, List.nil_append]
      · exact flat_filter W r nd.2 h
      · intro s hs z
        obtain ⟨p, _, rfl⟩ := List.mem_map.mp hs
        have : q.1 = r.1 := of_decide_eq_true z
        exact nd.1 (this ▸ List.mem_map.mpr ⟨r, h, rfl⟩)
theorem groups_loop : ∀ k (us : List D) n A, n < 128 ^ (k + 1) → k < us.length → A.length + k < 100000 → forF (setD 2) law_groups_w1 us [some (.d (.int (n : Nat))), some (.ol ((A : List Nat).map bI)), none] = .ok (.rt (.ol ((A ++ grp n).map bI))) := by
  intro k
  induction k with
  | zero =>
    intro us n A h hN hA
    have hz := line16
    have l : A.length + 1 ≤ sizeLine := by omega
    obtain ⟨u, us, rfl⟩ : ∃ u us', us = u :: us' := by cases us with
      | nil => simp at hN
      | cons u us => exact ⟨u, us, rfl⟩
    have c : (n : Int) < 128 := by omega
    rw [grp_lt (by omega)]
    unfold forF law_groups_w1
    simp [c, addS, l]
  | succ k ih =>
    intro us n A h hN hA
    have hz := line16
    have l : A.length + 1 ≤ sizeLine := by omega
    have l' : A.length < sizeLine := by omega
    obtain ⟨u, us, rfl⟩ : ∃ u us', us = u :: us' := by cases us with
      | nil => simp at hN
      | cons u us => exact ⟨u, us, rfl⟩
    by_cases c : n < 128
    · have c' : (n : Int) < 128 := by omega
      rw [grp_lt c]
      unfold forF law_groups_w1
      simp [c', addS, l]
    · have c' : ¬ (n : Int) < 128 := by omega
      have h' : n / 128 < 128 ^ (k + 1) := by rw [Nat.pow_succ] at h; omega
      have e1 := ih us (n / 128) (A ++ [n % 128 + 128]) h' (by simp at hN; omega) (by simp; omega)
      have w : law_groups_w1 [some (.d (.int (n : Nat))), some (.ol (A.map bI)), some (.d u)] = .ok (.nx [some (.d (.int ((n / 128 : Nat) : Int))), some (.ol ((A ++ [n % 128 + 128]).map bI)), none]) := by
        unfold law_groups_w1
        simp [c', l']
      unfold forF
      rw [grp_ge c]
      simp only [setD_ap, ok_bind, List.set_cons_succ, List.set_cons_zero]
      rw [w]
      simp only [ok_bind]
      rw [e1]; simp
theorem groups_ok (n : Nat) (h : n < 128 ^ 20) : law_groups_f [.int n] = .ok (.ol ((grp n).map bI)) := by
  have e1 := groups_loop 19 (rng 0 40) n [] h (by rw [rng_len]; decide) (by simp)
  have hb : ∀ ρ, ρ = [some (.d (.int n)), none, none] → law_groups_b ρ = .ok (.rt (.ol ((grp n).map bI))) := by
    rintro _ rfl
    unfold law_groups_b
    refine seq_nx (asg_nx (r := .ol []) rfl rfl) ?_
    have : forS (rngD1 (conB (kon (.int 40)) nilB)) (setD 2) law_groups_w1 [some (.d (.int n)), some (.ol []), none] = .ok (.rt (.ol ((grp n).map bI))) := forS_rng1 (j := 40) rfl (okR_of (by omega) (by omega)) e1
    exact seq_rt this
  exact runB_rt (hb _ rfl) rfl

/-! ### points put and taken -/
def PtsOk : Int → List (Int × Int) → Prop
  | _, [] => True
  | l, p :: r => l ≤ p.1 ∧ 0 ≤ l ∧ p.1 ≤ 1000000000000 ∧ (-10000000000000000 < p.2 ∧ p.2 < 10000000000000000) ∧ PtsOk (p.1 + 1) r
def encPts : Int → Int → List (Int × Int) → List Nat
  | _, _, [] => []
  | l, b, p :: r => grp (p.1 - l).toNat ++ grp (zig (p.2 - b)) ++ encPts (p.1 + 1) p.2 r
theorem pow20' : 1000000000000 < 128 ^ 20 := by decide
theorem encPts_len : ∀ (pts : List (Int × Int)) (l b : Int), PtsOk l pts → (-10000000000000000 < b ∧ b < 10000000000000000) → (encPts l b pts).length ≤ pts.length * 40
  | [], _, _, _, _ => Nat.zero_le _
  | p :: r, l, b, h, hb => by
    obtain ⟨h1, h2, h3, h4, h5⟩ := h
    have ih := encPts_len r (p.1 + 1) p.2 h5 h4
    have g1 := grp_small (n := (p.1 - l).toNat) (by have := pow20'; omega)
    have g2 := grp_small (n := zig (p.2 - b)) (zig_lt (by omega))
    show (grp (p.1 - l).toNat ++ grp (zig (p.2 - b)) ++ encPts (p.1 + 1) p.2 r).length ≤ _
    rw [List.length_append, List.length_append, List.length_cons]; omega
theorem put_points_loop (x0 x1 : Option SV) : ∀ (pts : List (Int × Int)) (A : List Nat) (l b : Int), PtsOk l pts → (-10000000000000000 < b ∧ b < 10000000000000000) → A.length + (encPts l b pts).length ≤ 1000000 → ∃ l' b', forF (tupG 2 (gsC (setD 5) (gsC (setD 6) gsN))) put_points_w1 (pts.map ptD) [x0, x1, some (.ol (A.map bI)), some (.d (.int l)), some (.d (.int b)), none, none] = .ok (.nx [x0, x1, some (.ol ((A ++ encPts l b pts).map bI)), some (.d (.int l')), some (.d (.int b')), none, none])
  | [], A, l, b, _, _, _ => ⟨l, b, by
    show _ = R.ok (Fl.nx [x0, x1, some (.ol ((A ++ []).map bI)), some (.d (.int l)), some (.d (.int b)), none, none])
    rw [List.append_nil]; rfl⟩
  | p :: r, A, l, b, h, hb, hl => by
    have hz := line16
    obtain ⟨h1, h2, h3, h4, h5⟩ := h
    have e : encPts l b (p :: r) = grp (p.1 - l).toNat ++ grp (zig (p.2 - b)) ++ encPts (p.1 + 1) p.2 r := rfl
    rw [e, List.length_append, List.length_append] at hl
    have p1 := put_number_ok (p.1 - l).toNat (by have := pow20'; omega)
    rw [Int.toNat_of_nonneg (show 0 ≤ p.1 - l by omega)] at p1
    have p2 := put_integer_ok (p.2 - b) (by omega)
    have ih := put_points_loop x0 x1 r (A ++ (grp (p.1 - l).toNat ++ grp (zig (p.2 - b)))) (p.1 + 1) p.2 h5 h4 (by rw [List.length_append, List.length_append]; omega)
    obtain ⟨l', b', ih⟩ := ih
    refine ⟨l', b', ?_⟩
    have w : put_points_w1 [x0, x1, some (.ol (A.map bI)), some (.d (.int l)), some (.d (.int b)), some (.d (.int p.1)), some (.d (.int p.2))] = .ok (.nx [x0, x1, some (.ol ((A ++ (grp (p.1 - l).toNat ++ grp (zig (p.2 - b)))).map bI)), some (.d (.int (p.1 + 1))), some (.d (.int p.2)), none, none]) := by
      have a1 : A.length + (grp (p.1 - l).toNat).length ≤ sizeLine := by omega
      have a2 : A.length + (grp (p.1 - l).toNat).length + (grp (zig (p.2 - b))).length ≤ sizeLine := by omega
      have a2' : A.length + ((grp (p.1 - l).toNat).length + (grp (zig (p.2 - b))).length) ≤ sizeLine := by omega
      unfold put_points_w1
      generalize grp (p.1 - l).toNat = G1 at *
      generalize grp (zig (p.2 - b)) = G2 at *
      simp [p1, p2, addS, a1, a2, a2']
    rw [List.map_cons]
    unfold forF
    have k : tupG 2 (gsC (setD 5) (gsC (setD 6) gsN)) (ptD p) [x0, x1, some (.ol (A.map bI)), some (.d (.int l)), some (.d (.int b)), none, none] = .ok [x0, x1, some (.ol (A.map bI)), some (.d (.int l)), some (.d (.int b)), some (.d (.int p.1)), some (.d (.int p.2))] := rfl
    rw [k]
    simp only [w, ok_bind]
    rw [ih, e, List.append_assoc]
theorem put_points_ok (s : Int) (pts : List (Int × Int)) (h : PtsOk s pts) (hl : pts.length ≤ 1000) : put_points_f [.int s, .list (pts.map ptD)] = .ok (.ol ((encPts s 0 pts).map bI)) := by
  have ln := encPts_len pts s 0 h (by omega)
  obtain ⟨l', b', e⟩ := put_points_loop (some (.d (.int s))) (some (.d (.list (pts.map ptD)))) pts [] s 0 h (by omega) (by simp; omega)
  rw [List.nil_append] at e
  have hb : ∀ ρ, ρ = [some (.d (.int s)), some (.d (.list (pts.map ptD))), none, none, none, none, none] → put_points_b ρ = .ok (.rt (.ol ((encPts s 0 pts).map bI))) := by
    rintro _ rfl
    unfold put_points_b
    exact seq_nx (asg_nx (r := .ol []) rfl rfl) (seq_nx (asg_nx (r := .d (.int s)) rfl rfl) (seq_nx (asg_nx (r := .d (.int 0)) rfl rfl) (seq_nx (forS_lst (xs := pts.map ptD) rfl e) rfl)))
  exact runB_rt (hb _ rfl) rfl
abbrev ptE (A : List Nat) (a : Nat) (s : Int) (m : Nat) (P : List (Int × Int)) (l b : Int) : En := [some (.d (.list (A.map bI))), some (.d (.int a)), some (.d (.int s)), some (.d (.int m)), some (.ol (P.map ptD)), some (.d (.int l)), some (.d (.int b)), none, none, none]
theorem take_points_loop (A : List Nat) (s : Int) (m : Nat) (hm : m ≤ 1000) : ∀ (pts : List (Int × Int)) (N a : Nat) (P : List (Int × Int)) (l b : Int) (post : List Nat), PtsOk l pts → (-10000000000000000 < b ∧ b < 10000000000000000) → pts.length < N → P.length + pts.length = m → A.drop a = encPts l b pts ++ post → ∃ l' b', whileF N take_points_t1 take_points_w1 (ptE A a s m P l b) = .ok (.nx (ptE A (a + (encPts l b pts).length) s m (P ++ pts) l' b'))
  | [], N, a, P, l, b, post, _, _, hN, hx, hA => by
    obtain ⟨N, rfl⟩ : ∃ N', N = N' + 1 := ⟨N - 1, by simp at hN; omega⟩
    have t : take_points_t1 (ptE A a s m P l b) = .ok false := by
      have c : ¬ (P.length : Int) < m := by simp at hx; omega
      have c' : ¬ P.length < m := by simp at hx; omega
      unfold take_points_t1
      simp [c, c']
    refine ⟨l, b, ?_⟩
    unfold whileF
    simp only [t, ok_bind]
    rw [List.append_nil]; rfl
  | p :: r, N, a, P, l, b, post, h, hb, hN, hx, hA => by
    have hz := line16
    obtain ⟨N, rfl⟩ : ∃ N', N = N' + 1 := ⟨N - 1, by simp at hN; omega⟩
    obtain ⟨h1, h2, h3, h4, h5⟩ := h
    have e : encPts l b (p :: r) = grp (p.1 - l).toNat ++ grp (zig (p.2 - b)) ++ encPts (p.1 + 1) p.2 r := rfl
    rw [e] at hA
    have hA1 : A.drop a = grp (p.1 - l).toNat ++ (grp (zig (p.2 - b)) ++ (encPts (p.1 + 1) p.2 r ++ post)) := by rw [hA]; simp
    have t1 := take_number_ok A a _ _ (by have := pow20'; omega) hA1
    rw [Int.toNat_of_nonneg (show 0 ≤ p.1 - l by omega)] at t1
    have hA2 : A.drop (a + (grp (p.1 - l).toNat).length) = grp (zig (p.2 - b)) ++ (encPts (p.1 + 1) p.2 r ++ post) := by rw [← List.drop_drop, hA1]; simp
    have t2 := take_integer_ok A _ (p.2 - b) _ (by omega) hA2
    have hA3 : A.drop (a + (grp (p.1 - l).toNat).length + (grp (zig (p.2 - b))).length) = encPts (p.1 + 1) p.2 r ++ post := by rw [← List.drop_drop, hA2]; simp
    have t : take_points_t1 (ptE A a s m P l b) = .ok true := by
      have q : (P.length : Int) < m := by simp at hx; omega
      have q' : P.length < m := by simp at hx; omega
      unfold take_points_t1
      simp [q, q']
    have w : take_points_w1 (ptE A a s m P l b) = .ok (.nx (ptE A (a + (grp (p.1 - l).toNat).length + (grp (zig (p.2 - b))).length) s m (P ++ [p]) (p.1 + 1) p.2)) := by
      have ln : P.length < sizeLine := by simp at hx; omega
      have i1 : l + (p.1 - l) = p.1 := by omega
      have i2 : b + (p.2 - b) = p.2 := by omega
      unfold take_points_w1 ptE
      generalize a + (grp (p.1 - l).toNat).length = a1 at *
      generalize a1 + (grp (zig (p.2 - b))).length = a2 at *
      simp [t1, t2, ln, i1, i2, ptD]
    obtain ⟨l', b', ih⟩ := take_points_loop A s m hm r N (a + (grp (p.1 - l).toNat).length + (grp (zig (p.2 - b))).length) (P ++ [p]) (p.1 + 1) p.2 post h5 h4 (by simp at hN; omega) (by simp at hx ⊢; omega) hA3
    refine ⟨l', b', ?_⟩
    unfold whileF
    simp only [t, w, ok_bind, if_true]
    rw [ih, e]
    have e1 : a + (grp (p.1 - l).toNat).length + (grp (zig (p.2 - b))).length + (encPts (p.1 + 1) p.2 r).length = a + (grp (p.1 - l).toNat ++ grp (zig (p.2 - b)) ++ encPts (p.1 + 1) p.2 r).length := by
      rw [List.length_append, List.length_append]; omega
    have e2 : P ++ [p] ++ r = P ++ p :: r := by simp
    rw [e1, e2]
theorem take_points_ok (A : List Nat) (a : Nat) (s : Int) (pts : List (Int × Int)) (post : List Nat) (h : PtsOk s pts) (hl : pts.length ≤ 1000) (hA : A.drop a = encPts s 0 pts ++ post) : take_points_f [.list (A.map bI), .int a, .int s, .int (pts.length : Nat)] = .ok (.d (.tuple [.list (pts.map ptD), .int ((a + (encPts s 0 pts).length : Nat) : Int)])) := by
  obtain ⟨l', b', e⟩ := take_points_loop A s pts.length hl pts 1000000 a [] s 0 post h (by omega) (by omega) (by simp) hA
  rw [List.nil_append] at e
  have hb : ∀ ρ, ρ = [some (.d (.list (A.map bI))), some (.d (.int a)), some (.d (.int s)), some (.d (.int (pts.length : Nat))), none, none, none, none, none, none] → take_points_b ρ = .ok (.rt (.d (.tuple [.list (pts.map ptD), .int ((a + (encPts s 0 pts).length : Nat) : Int)]))) := by
    rintro _ rfl
    unfold take_points_b
    refine seq_nx (asg_nx (r := .ol []) rfl rfl) (seq_nx (asg_nx (r := .d (.int s)) rfl rfl) (seq_nx (asg_nx (r := .d (.int 0)) rfl rfl) (seq_nx e ?_)))
    simp
  exact runB_rt (hb _ rfl) rfl
/-! ### rows put and taken -/
structure RowOk (s : Int) (r : Row) : Prop where
  lc : LabC r.1
  ll : r.1.length ≤ 5
  pt : PtsOk s r.2
  pl : r.2.length ≤ 100
def encRow (s : Int) (r : Row) : List Nat := encL r.1 ++ grp r.2.length ++ encPts s 0 r.2
theorem encL_len {l : Lab} (h : LabC l) (hl : l.length ≤ 5) : (encL l).length ≤ 10300 := by
  have := encLs_len l h
  have := grp_small (n := l.length) (by have := pow20; omega)
  unfold encL
  rw [List.length_append]; omega
theorem encRow_len {s : Int} {r : Row} (h : RowOk s r) : (encRow s r).length ≤ 15000 := by
  have h1 := encL_len h.lc h.ll
  have h2 := grp_small (n := r.2.length) (by have := pow20; have := h.pl; omega)
  have h3 := encPts_len r.2 s 0 h.pt (by omega)
  have := h.pl
  unfold encRow
  rw [List.length_append, List.length_append]; omega
theorem put_block_loop (x0 x2 x3 : Option SV) (s : Int) : ∀ (W : List Row) (A : List Nat), (∀ r ∈ W, RowOk s r) → A.length + W.length * 15000 ≤ 16000000 → forF (tupG 2 (gsC (setD 5) (gsC (setD 6) gsN))) put_block_w1 (W.map rowE) [x0, some (.d (.int s)), x2, x3, some (.ol (A.map bI)), none, none] = .ok (.nx [x0, some (.d (.int s)), x2, x3, some (.ol ((A ++ W.flatMap (encRow s)).map bI)), none, none])
  | [], A, _, _ => by rw [List.flatMap_nil, List.append_nil]; rfl
  | r :: W, A, h, hl => by
    have hz := line16
    rw [List.length_cons, Nat.add_mul] at hl
    have hr := h r List.mem_cons_self
    have hrl := encRow_len hr
    have p1 := put_labels_ok r.1 hr.lc (by have := hr.ll; omega)
    have p2 := put_number_ok r.2.length (by have := pow20; have := hr.pl; omega)
    have p3 := put_points_ok s r.2 hr.pt (by have := hr.pl; omega)
    have e : (encRow s r).length = (encL r.1).length + (grp r.2.length).length + (encPts s 0 r.2).length := by unfold encRow; rw [List.length_append, List.length_append]
    have ih := put_block_loop x0 x2 x3 s W (A ++ encRow s r) (fun q hq => h q (List.mem_cons_of_mem _ hq)) (by rw [List.length_append]; omega)
    have w : put_block_w1 [x0, some (.d (.int s)), x2, x3, some (.ol (A.map bI)), some (.d (encB r.1)), some (.d (.list (r.2.map ptD)))] = .ok (.nx [x0, some (.d (.int s)), x2, x3, some (.ol ((A ++ encRow s r).map bI)), none, none]) := by
      have a1 : A.length + (encL r.1).length ≤ sizeLine := by omega
      have a2 : A.length + ((encL r.1).length + (grp r.2.length).length) ≤ sizeLine := by omega
      have a3 : A.length + ((encL r.1).length + ((grp r.2.length).length + (encPts s 0 r.2).length)) ≤ sizeLine := by omega
      have a2' : A.length + (encL r.1).length + (grp r.2.length).length ≤ sizeLine := by omega
      have a3'' : A.length + ((encL r.1).length + (grp r.2.length).length) + (encPts s 0 r.2).length ≤ sizeLine := by omega
      have a3' : A.length + (encL r.1).length + (grp r.2.length).length + (encPts s 0 r.2).length ≤ sizeLine := by omega
      have lp : (r.2.map ptD).length = r.2.length := List.length_map ..
      rw [← lp] at p2
      unfold encRow
      rw [← lp] at a2 a3 a2' a3' a3'' ⊢
      unfold put_block_w1
      generalize r.2.map ptD = PP at *
      generalize encL r.1 = G1 at *
      generalize grp PP.length = G2 at *
      generalize encPts s 0 r.2 = G3 at *
      generalize encB r.1 = B at *
      simp [p1, p2, p3, addS, a1, a2, a3, a2', a3', a3'']
    rw [List.map_cons]
    unfold forF
    have k : tupG 2 (gsC (setD 5) (gsC (setD 6) gsN)) (rowE r) [x0, some (.d (.int s)), x2, x3, some (.ol (A.map bI)), none, none] = .ok [x0, some (.d (.int s)), x2, x3, some (.ol (A.map bI)), some (.d (encB r.1)), some (.d (.list (r.2.map ptD)))] := rfl
    rw [k]
    simp only [w, ok_bind]
    rw [ih, List.flatMap_cons, List.append_assoc]
theorem take_series_ok (A : List Nat) (a : Nat) (s : Int) (r : Row) (post : List Nat) (h : RowOk s r) (hA : A.drop a = encRow s r ++ post) : take_series_f [.list (A.map bI), .int a, .int s] = .ok (.d (.tuple [rowE r, .int ((a + (encRow s r).length : Nat) : Int)])) := by
  have hpl := h.pl
  have hA1 : A.drop a = encL r.1 ++ (grp r.2.length ++ (encPts s 0 r.2 ++ post)) := by rw [hA]; unfold encRow; simp
  have t1 := take_labels_ok A a r.1 _ h.lc (by have := h.ll; omega) hA1
  have hA2 : A.drop (a + (encL r.1).length) = grp r.2.length ++ (encPts s 0 r.2 ++ post) := by rw [← List.drop_drop, hA1]; simp
  have t2 := take_number_ok A _ r.2.length _ (by have := pow20; omega) hA2
  have hA3 : A.drop (a + (encL r.1).length + (grp r.2.length).length) = encPts s 0 r.2 ++ post := by rw [← List.drop_drop, hA2]; simp
  have t3 := take_points_ok A _ s r.2 post h.pt (by omega) hA3
  have e : a + (encRow s r).length = a + (encL r.1).length + (grp r.2.length).length + (encPts s 0 r.2).length := by unfold encRow; rw [List.length_append, List.length_append]; omega
  rw [e]
  have hb : ∀ ρ, ρ = [some (.d (.list (A.map bI))), some (.d (.int a)), some (.d (.int s)), none, none, none] → take_series_b ρ = .ok (.rt (.d (.tuple [rowE r, .int ((a + (encL r.1).length + (grp r.2.length).length + (encPts s 0 r.2).length : Nat) : Int)]))) := by
    rintro _ rfl
    unfold take_series_b rowE
    generalize a + (encL r.1).length = a1 at *
    generalize a1 + (grp r.2.length).length = a2 at *
    generalize a2 + (encPts s 0 r.2).length = a3 at *
    generalize encB r.1 = B at *
    generalize r.2.map ptD = PP at *
    simp [t1, t2, t3]
  exact runB_rt (hb _ rfl) rfl
def encBlk (s w : Int) (W : List Row) : List Nat := grp s.toNat ++ grp w.toNat ++ grp W.length ++ W.flatMap (encRow s)
theorem put_block_ok (s w : Int) (W : List Row) (hs : 0 ≤ s ∧ s ≤ 1000000000000) (hw : 0 ≤ w ∧ w ≤ 1000000000000) (hl : W.length ≤ 100) (h : ∀ r ∈ W, RowOk s r) : put_block_f [.tuple [.int s, .int w, .list (W.map rowE)]] = .ok (.ol ((encBlk s w W).map bI)) := by
  have hz := line16
  have q20 := pow20
  have q20' := pow20'
  have p1 := put_number_ok s.toNat (by omega)
  have p2 := put_number_ok w.toNat (by omega)
  have p3 := put_number_ok W.length (by omega)
  rw [Int.toNat_of_nonneg hs.1] at p1
  rw [Int.toNat_of_nonneg hw.1] at p2
  have g1 := grp_small (n := s.toNat) (by omega)
  have g2 := grp_small (n := w.toNat) (by omega)
  have g3 := grp_small (n := W.length) (by omega)
  have e := put_block_loop (some (.d (.tuple [.int s, .int w, .list (W.map rowE)]))) (some (.d (.int w))) (some (.d (.list (W.map rowE)))) s W (grp s.toNat ++ grp w.toNat ++ grp W.length) h (by rw [List.length_append, List.length_append]; omega)
  have hb : ∀ ρ, ρ = [some (.d (.tuple [.int s, .int w, .list (W.map rowE)])), none, none, none, none, none, none] → put_block_b ρ = .ok (.rt (.ol ((encBlk s w W).map bI))) := by
    rintro _ rfl
    unfold put_block_b
    refine seq_nx (ρ1 := [some (.d (.tuple [.int s, .int w, .list (W.map rowE)])), some (.d (.int s)), some (.d (.int w)), some (.d (.list (W.map rowE))), none, none, none]) rfl ?_
    refine seq_nx (ρ1 := [some (.d (.tuple [.int s, .int w, .list (W.map rowE)])), some (.d (.int s)), some (.d (.int w)), some (.d (.list (W.map rowE))), some (.ol ((grp s.toNat ++ grp w.toNat ++ grp W.length).map bI)), none, none]) ?_ ?_
    · have a1 : (grp s.toNat).length + (grp w.toNat).length ≤ sizeLine := by omega
      have a2 : (grp s.toNat).length + ((grp w.toNat).length + (grp W.length).length) ≤ sizeLine := by omega
      have a2' : (grp s.toNat).length + (grp w.toNat).length + (grp W.length).length ≤ sizeLine := by omega
      have lp : (W.map rowE).length = W.length := List.length_map ..
      rw [← lp] at p3 a2 a2' ⊢
      clear e
      generalize W.map rowE = WW at *
      generalize grp s.toNat = G1 at *
      generalize grp w.toNat = G2 at *
      generalize grp WW.length = G3 at *
      simp [p1, p2, p3, addS, a1, a2, a2']
    · exact seq_nx (forS_lst (xs := W.map rowE) rfl e) rfl
  exact runB_rt (hb _ rfl) rfl
abbrev tasE (A : List Nat) (a : Nat) (s : Int) (n e : Nat) (P : List Row) : En := [some (.d (.list (A.map bI))), some (.d (.int a)), some (.d (.int s)), some (.d (.tuple [.int n, .int e])), some (.ol (P.map rowE)), none]
theorem take_all_loop (A : List Nat) (s : Int) (n e : Nat) (hn : n ≤ 1000) : ∀ (W : List Row) (N a : Nat) (P : List Row) (post : List Nat), (∀ r ∈ W, RowOk s r) → W.length < N → P.length + W.length = n → A.drop a = W.flatMap (encRow s) ++ post → whileF N take_all_series_t1 take_all_series_w1 (tasE A a s n e P) = .ok (.nx (tasE A (a + (W.flatMap (encRow s)).length) s n e (P ++ W)))
  | [], N, a, P, post, _, hN, hx, hA => by
    obtain ⟨N, rfl⟩ : ∃ N', N = N' + 1 := ⟨N - 1, by simp at hN; omega⟩
    have t : take_all_series_t1 (tasE A a s n e P) = .ok false := by
      have c : ¬ (P.length : Int) < n := by simp at hx; omega
      have c' : ¬ P.length < n := by simp at hx; omega
      unfold take_all_series_t1
      simp [c, c']
    unfold whileF
    simp only [t, ok_bind]
    rw [List.append_nil]; rfl
  | r :: W, N, a, P, post, h, hN, hx, hA => by
    have hz := line16
    obtain ⟨N, rfl⟩ : ∃ N', N = N' + 1 := ⟨N - 1, by simp at hN; omega⟩
    rw [List.flatMap_cons, List.append_assoc] at hA
    have t1 := take_series_ok A a s r _ (h r List.mem_cons_self) hA
    have hA2 : A.drop (a + (encRow s r).length) = W.flatMap (encRow s) ++ post := by rw [← List.drop_drop, hA]; simp
    have t : take_all_series_t1 (tasE A a s n e P) = .ok true := by
      have q : (P.length : Int) < n := by simp at hx; omega
      have q' : P.length < n := by simp at hx; omega
      unfold take_all_series_t1
      simp [q, q']
    have w : take_all_series_w1 (tasE A a s n e P) = .ok (.nx (tasE A (a + (encRow s r).length) s n e (P ++ [r]))) := by
      have ln : P.length < sizeLine := by simp at hx; omega
      unfold take_all_series_w1 tasE
      generalize a + (encRow s r).length = a1 at *
      generalize hX : rowE r = X at *
      simp [t1, ln, hX]
    have ih := take_all_loop A s n e hn W N (a + (encRow s r).length) (P ++ [r]) post (fun q hq => h q (List.mem_cons_of_mem _ hq)) (by simp at hN; omega) (by simp at hx ⊢; omega) hA2
    unfold whileF
    simp only [t, w, ok_bind, if_true]
    rw [ih, List.flatMap_cons, List.length_append]
    have e2 : P ++ [r] ++ W = P ++ r :: W := by simp
    rw [e2, Nat.add_assoc]
theorem take_all_ok (A : List Nat) (a : Nat) (s : Int) (W : List Row) (h : ∀ r ∈ W, RowOk s r) (hl : W.length ≤ 100) (hA : A.drop a = grp W.length ++ W.flatMap (encRow s)) (ha : a ≤ A.length) : take_all_series_f [.list (A.map bI), .int a, .int s] = .ok (.ol (W.map rowE)) := by
  have t1 := take_number_ok A a W.length _ (by have := pow20; omega) hA
  have hA2 : A.drop (a + (grp W.length).length) = W.flatMap (encRow s) ++ [] := by rw [← List.drop_drop, hA]; simp
  have hlen : A.length = a + (grp W.length).length + (W.flatMap (encRow s)).length := by
    have := congrArg List.length hA
    rw [List.length_drop, List.length_append] at this
    omega
  generalize a + (grp W.length).length = e at *
  have e1 := take_all_loop A s W.length e (by omega) W 1000000 e [] [] h (by omega) (by simp) hA2
  rw [List.nil_append] at e1
  have hb : ∀ ρ, ρ = [some (.d (.list (A.map bI))), some (.d (.int a)), some (.d (.int s)), none, none, none] → take_all_series_b ρ = .ok (.rt (.ol (W.map rowE))) := by
    rintro _ rfl
    unfold take_all_series_b
    refine seq_nx (asg_nx (r := .d (.tuple [.int W.length, .int (e : Nat)])) (by simp [t1]) rfl) ?_
    refine seq_nx (ρ1 := [some (.d (.list (A.map bI))), some (.d (.int a)), some (.d (.int s)), some (.d (.tuple [.int W.length, .int (e : Nat)])), none, none]) (by simp) ?_
    refine seq_nx (asg_nx (r := .d (.int (e : Nat))) (by simp) rfl) (seq_nx (asg_nx (r := .ol []) rfl rfl) (seq_nx e1 ?_))
    have hlen' : ((e + (W.flatMap (encRow s)).length : Nat) : Int) = (A.length : Int) := by omega
    generalize e + (W.flatMap (encRow s)).length = z at *
    simp [hlen']
  exact runB_rt (hb _ rfl) rfl
/-! ### plain samples -/
structure LabP (l : Lab) : Prop where
  asc : Asc l
  ok : ∀ p ∈ l, rowN p.1 = true ∧ rowV p.2 = true ∧ p.1.length ≤ 20 ∧ p.2.length ≤ 20
  len : l.length ≤ 5
theorem rowN_ne {t : Str} (h : rowN t = true) : t.cps.toList ≠ [] := by
  unfold rowN headL at h
  rw [Bool.and_eq_true] at h
  intro z
  rw [z] at h
  exact absurd h.2 (by decide)
theorem plain_loop (x : Option SV) : ∀ (l : Lab) (b : Str), (∀ p ∈ l, b.cps.toList < p.1.cps.toList) → Asc l → (∀ p ∈ l, rowN p.1 = true ∧ rowV p.2 = true ∧ p.1.length ≤ 20 ∧ p.2.length ≤ 20) → ∃ b', forF (tupG 2 (gsC (setD 2) (gsC (setD 3) gsN))) are_plain_labels_w1 (l.map encP) [x, some (.d (.str b)), none, none] = .ok (.nx [x, some (.d (.str b')), none, none])
  | [], b, _, _, _ => ⟨b, rfl⟩
  | p :: l, b, hb, ha, ho => by
    obtain ⟨h1, h2, h3, h4⟩ := ho p List.mem_cons_self
    have n1 := is_name_ok p.1 (by omega)
    have v1 := is_value_ok p.2 (by omega)
    rw [h1] at n1
    rw [h2] at v1
    have lt := hb p List.mem_cons_self
    have ha' := List.pairwise_cons.mp ha
    obtain ⟨b', ih⟩ := plain_loop x l p.1 (fun q hq => ha'.1 q hq) ha'.2 (fun q hq => ho q (List.mem_cons_of_mem _ hq))
    refine ⟨b', ?_⟩
    have le : leS (.d (.str p.1)) (.d (.str b)) = .ok (.d (.bool false)) := by
      show R.ok (SV.d (.bool (!decide (b.cps.toList < p.1.cps.toList)))) = _
      rw [decide_eq_true lt]; rfl
    have w : are_plain_labels_w1 [x, some (.d (.str b)), some (.d (.str p.1)), some (.d (.str p.2))] = .ok (.nx [x, some (.d (.str p.1)), none, none]) := by
      unfold are_plain_labels_w1
      simp [n1, v1, le]
    rw [List.map_cons]
    unfold forF
    have k : tupG 2 (gsC (setD 2) (gsC (setD 3) gsN)) (encP p) [x, some (.d (.str b)), none, none] = .ok [x, some (.d (.str b)), some (.d (.str p.1)), some (.d (.str p.2))] := rfl
    rw [k]
    simp only [w, ok_bind]
    exact ih
theorem plain_labels_ok (l : Lab) (h : LabP l) : are_plain_labels_f [encB l] = .ok (.d (.bool true)) := by
  obtain ⟨b', e⟩ := plain_loop (some (.d (encB l))) l "" (fun p hp => by
    have ne := rowN_ne (h.ok p hp).1
    cases q : p.1.cps.toList with
    | nil => exact absurd q ne
    | cons a r => exact List.nil_lt_cons a r) h.asc h.ok
  have c : ¬ (6 : Int) < l.length := by have := h.len; omega
  have ln : lenS [.d (encB l)] = .ok (.d (.int l.length)) := by
    show lenS [.d (.tuple (l.map encP))] = _
    simp
  have hb : ∀ ρ, ρ = [some (.d (encB l)), none, none, none] → are_plain_labels_b ρ = .ok (.rt (.d (.bool true))) := by
    rintro _ rfl
    unfold are_plain_labels_b
    exact seq_nx (ρ1 := [some (.d (encB l)), none, none, none]) (by simp [ln, c]) (seq_nx (asg_nx (r := .d (.str "")) rfl rfl) (seq_nx (forS_tup (xs := l.map encP) rfl e) rfl))
  exact runB_rt (hb _ rfl) rfl
theorem is_plain_ok (s : Smp) (h : LabP s.1.1) (ht : 0 ≤ s.1.2 ∧ s.1.2 ≤ 10000) (hv : -1000000000000000 < s.2 ∧ s.2 < 1000000000000000) : is_plain_f [encS s] = .ok (.d (.bool true)) := by
  have p := plain_labels_ok s.1.1 h
  have ab : absS [.d (.int s.2)] = .ok (.d (.int (if s.2 < 0 then -s.2 else s.2))) := rfl
  have c : (if s.2 < 0 then -s.2 else s.2) < 1000000000000000 := by split <;> omega
  unfold is_plain_f runB is_plain_b startE encS
  generalize (if s.2 < 0 then -s.2 else s.2) = z at *
  generalize encB s.1.1 = B at *
  simp [p, ht.1, ht.2, ab, c]
/-! ### the law's own series -/
abbrev ixL : En → Rw → R SV := binN subS lenN (fun ρ _ => (kon (.int 1)) ρ)
theorem ixL_ok (ρ : En) (w : Rw) : ixL ρ w = .ok (.d (.int ((w.length : Int) - 1))) := rfl
theorem l1_ok (VV : D) (W : List Row) (s : Smp) (hl : W.length ≤ 1000) (hr : ∀ r ∈ W, r.2.length ≤ 1000) : law_series_n1 (serE VV (some (.d (encB s.1.1))) (some (.d (.int s.1.2))) (some (.d (.int s.2)))) (W.map rwE) = .ok (serE VV none none none, (addR W s).map rwE) := by
  have hz := line16
  have kill : ∀ (F : En → Rw → R (En × Rw)) (W' : List Row), F (serE VV (some (.d (encB s.1.1))) (some (.d (.int s.1.2))) (some (.d (.int s.2)))) (W.map rwE) = .ok (serE VV (some (.d (encB s.1.1))) (some (.d (.int s.1.2))) (some (.d (.int s.2))), W'.map rwE) → killN 1 [2, 3, 4] F (serE VV (some (.d (encB s.1.1))) (some (.d (.int s.1.2))) (some (.d (.int s.2)))) (W.map rwE) = .ok (serE VV none none none, W'.map rwE) := fun F W' e => by
    unfold killN
    rw [e]; rfl
  have nw : ∀ (U : List Row), U.length ≤ 1000 → newN (getV 2) (conA (dispT (conA (getV 3) (conA (getV 4) nilA))) nilA) (serE VV (some (.d (encB s.1.1))) (some (.d (.int s.1.2))) (some (.d (.int s.2)))) (U.map rwE) = .ok (serE VV (some (.d (encB s.1.1))) (some (.d (.int s.1.2))) (some (.d (.int s.2))), (U ++ [(s.1.1, [(s.1.2, s.2)])]).map rwE) := fun U hU => by
    have e2 : (U ++ [((s.1.1, [(s.1.2, s.2)]) : Row)]).map rwE = U.map rwE ++ [([encB s.1.1], [.tuple [.int s.1.2, .int s.2]])] := by
      rw [List.map_append]; rfl
    have hl' : (U.map rwE).length < sizeLine := by rw [List.length_map]; omega
    unfold newN
    rw [e2]
    generalize U.map rwE = WW at *
    generalize encB s.1.1 = X
    simp [hl']
  unfold law_series_n1
  refine kill _ _ ?_
  rcases List.eq_nil_or_concat W with rfl | ⟨A, r, rfl⟩
  · unfold ifN andN anyN
    exact nw [] (by simp)
  · rw [List.concat_eq_append] at hl hr ⊢
    have e := eqS_lab' false r.1 s.1.1
    have len : (((A ++ [r]).map rwE).length : Int) - 1 + 1 = (((A ++ [r]).map rwE).length : Int) := by omega
    have i0 : lastG ixL 0 (serE VV (some (.d (encB s.1.1))) (some (.d (.int s.1.2))) (some (.d (.int s.2)))) ((A ++ [r]).map rwE) = .ok (.d (encB r.1)) := by
      unfold lastG
      rw [ixL_ok, rw_last]
      simp only [ok_bind]
      rw [if_pos (.inr len)]
      rfl
    have an : anyN (serE VV (some (.d (encB s.1.1))) (some (.d (.int s.1.2))) (some (.d (.int s.2)))) ((A ++ [r]).map rwE) = .ok true := by
      unfold anyN
      rw [List.map_append]
      simp
    have tt : andN anyN (asN (binN (eqS false) (lastG ixL 0) (fun ρ _ => (peek 2) ρ))) (serE VV (some (.d (encB s.1.1))) (some (.d (.int s.1.2))) (some (.d (.int s.2)))) ((A ++ [r]).map rwE) = .ok (decide (r.1 = s.1.1)) := by
      unfold andN asN
      rw [an]
      show (binN (eqS false) (lastG ixL 0) _ _ _ >>= _) = _
      unfold binN
      rw [i0]
      generalize encB r.1 = X at *
      generalize encB s.1.1 = Y at *
      simp [e]
    unfold addR
    rw [List.getLast?_concat]
    simp only
    by_cases c : r.1 = s.1.1
    · rw [if_pos c, List.dropLast_concat]
      unfold ifN
      rw [tt, decide_eq_true c]
      show pushG ixL 1 (dispT (conA (getV 3) (conA (getV 4) nilA))) _ _ = _
      have hrr := hr r (by simp)
      have e2 : (A ++ [(r.1, r.2 ++ [(s.1.2, s.2)])]).map rwE = A.map rwE ++ [([encB r.1], r.2.map ptD ++ [.tuple [.int s.1.2, .int s.2]])] := by
        rw [List.map_append]
        unfold rwE ptD
        simp
      have l : (r.2.map ptD).length < sizeLine := by rw [List.length_map]; omega
      unfold pushG
      rw [ixL_ok, rw_last, rw_drop, e2]
      simp only [ok_bind]
      rw [if_pos ⟨.inr len, rfl⟩]
      show (dispT (conA (getV 3) (conA (getV 4) nilA)) _ >>= _) = _
      unfold rwE
      generalize A.map _ = AA
      generalize r.2.map ptD = PP at *
      generalize encB r.1 = X
      simp [l]
    · rw [if_neg c]
      unfold ifN
      rw [tt, decide_eq_false c]
      exact nw (A ++ [r]) hl
theorem lser_loop (VV : D) : ∀ (V : List Smp) (W : List Row) (n : Nat), W.length ≤ n → (∀ r ∈ W, r.2.length ≤ n) → n + V.length ≤ 1000 → forN 1 (tupG 3 (gsC (setD 2) (gsC (setD 3) (gsC (setD 4) gsN)))) law_series_n1 (V.map encS) (serE VV none none none) (W.map rwE) = .ok (serE VV none none none, (V.foldl addR W).map rwE)
  | [], W, n, _, _, _ => rfl
  | s :: V, W, n, hl, hr, hn => by
    rw [List.length_cons] at hn
    have h := add_len W s n hl hr
    have ih := lser_loop VV V (addR W s) (n + 1) h.1 h.2 (by omega)
    have st := l1_ok VV W s (by omega) (fun r hr' => by have := hr r hr'; omega)
    rw [List.map_cons]
    unfold forN
    have kk : tupG 3 (gsC (setD 2) (gsC (setD 3) (gsC (setD 4) gsN))) (encS s) (serE VV none none none) = .ok (serE VV (some (.d (encB s.1.1))) (some (.d (.int s.1.2))) (some (.d (.int s.2)))) := rfl
    rw [kk]
    have dd : deadB (serE VV (some (.d (encB s.1.1))) (some (.d (.int s.1.2))) (some (.d (.int s.2)))) 1 = true := rfl
    simp only [dd, if_true, st, ok_bind]
    exact ih
theorem law_series_ok (V : List Smp) (hV : V.length ≤ 1000) : law_series_f [.list (V.map encS)] = .ok (.ol ((V.foldl addR []).map rowE)) := by
  have e := lser_loop (.list (V.map encS)) V [] 0 (by simp) (fun _ h => nomatch h) (by omega)
  have hb : ∀ ρ, ρ = [some (.d (.list (V.map encS))), none, none, none, none] → law_series_b ρ = .ok (.rt (.ol ((V.foldl addR []).map rowE))) := by
    rintro _ rfl
    unfold law_series_b
    refine seq_nx (asg_nx (r := .ol []) rfl rfl) (seq_nx (ρ1 := [some (.d (.list (V.map encS))), some (.ol ((V.foldl addR []).map rowE)), none, none, none]) ?_ rfl)
    show (seqD (getV 0) _ >>= fun xs => forN 1 _ law_series_n1 xs (serE (.list (V.map encS)) none none none) (List.map rwE []) >>= _) = _
    have e0 : seqD (getV 0) [some (.d (.list (V.map encS))), some (.ol []), none, none, none] = .ok (V.map encS) := rfl
    show (seqD (getV 0) [some (.d (.list (V.map encS))), some (.ol []), none, none, none] >>= _) = _
    rw [e0, ok_bind, e, ok_bind, List.map_map]
    rfl
  exact runB_rt (hb _ rfl) rfl
/-! ### the law's bytes -/
theorem law_letters_ok (s : Str) (h : WC s) (hl : s.length ≤ 1000) : law_letters_f [.str s] = .ok (.ol ((encT s).map bI)) := by
  have hz := line16
  have g := groups_ok s.length (by have := pow20; omega)
  have gl := grp_small (n := s.length) (by have := pow20; omega)
  have ls := lenS_str s hl
  have L := lcE_allα (vs := [1]) sgD (fun n : Nat => bI n) (fi := seqD (getV 0)) (k := setD 1) (e := callB ordS (conB (peek 1) nilB)) (ρ := [some (.d (.str s)), none]) (tl s) rfl (by rw [← len_tl]; omega) (fun n _ => by
    refine ⟨_, rfl, .d (bI n), ?_, rfl⟩
    have o : ordS [.d (sgD n)] = .ok (.d (.int (n : Nat))) := (ordS_s _).trans (if_pos rfl)
    generalize sgD n = S at *
    simp [o])
  have hb : ∀ ρ, ρ = [some (.d (.str s)), none] → law_letters_b ρ = .ok (.rt (.ol ((encT s).map bI))) := by
    rintro _ rfl
    have l : ((grp s.length).map bI).length + ((tl s).map fun n : Nat => bI n).length ≤ sizeLine := by
      rw [List.length_map, List.length_map, ← len_tl]; omega
    have e : (encT s).map bI = (grp s.length).map bI ++ (tl s).map fun n : Nat => bI n := by unfold encT; rw [List.map_append]
    rw [e]
    have first : callF 1 law_groups_f (conA (callB lenS (conB (peek 0) nilB)) nilA) [some (.d (.str s)), none] = .ok (.ol ((grp s.length).map bI)) := by
      simp [ls, g]
    unfold law_letters_b
    rw [retS_ap, bin_ap, first]
    simp only [ok_bind]
    rw [L]
    show (if _ then _ else _) >>= _ = _
    rw [if_pos l]; rfl
  exact runB_rt (hb _ rfl) rfl
theorem law_integer_ok (i : Int) (h : i < 10 ^ 31 ∧ -10 ^ 31 < i) : law_integer_bytes_f [.int i] = .ok (.ol ((grp (zig i)).map bI)) := by
  have hp := groups_ok (zig i) (zig_lt h)
  have k2 : okM (-2) = true := rfl
  unfold law_integer_bytes_f runB law_integer_bytes_b startE
  by_cases c : 0 ≤ i
  · have e : ((zig i : Nat) : Int) = 2 * i := by unfold zig; rw [if_pos c]; omega
    rw [e] at hp
    simp [c, hp]
  · have e : ((zig i : Nat) : Int) = -2 * i - 1 := by unfold zig; rw [if_neg c]; omega
    rw [e] at hp
    have c' : i < 0 := by omega
    simp [c, c', k2, ← Int.neg_mul] at hp ⊢
    simp [hp]
theorem lab_bytes_loop (x : Option SV) : ∀ (cs : Lab) (A : List Nat), LabC cs → A.length + (cs.flatMap encL1).length ≤ 1000000 → forF (tupG 2 (gsC (setD 2) (gsC (setD 3) gsN))) law_labels_bytes_w1 (cs.map encP) [x, some (.ol (A.map bI)), none, none] = .ok (.nx [x, some (.ol ((A ++ cs.flatMap encL1).map bI)), none, none])
  | [], A, _, _ => by rw [List.flatMap_nil, List.append_nil]; rfl
  | p :: cs, A, h, hl => by
    have hz := line16
    rw [List.flatMap_cons, List.length_append] at hl
    have hp := h p List.mem_cons_self
    have h1 := law_letters_ok p.1 hp.1.1 hp.1.2
    have h2 := law_letters_ok p.2 hp.2.1 hp.2.2
    have l1 := encL1_len hp
    have l0 : (encL1 p).length = (encT p.1).length + (encT p.2).length := by unfold encL1; rw [List.length_append]
    have ih := lab_bytes_loop x cs (A ++ encL1 p) (fun d hd => h d (List.mem_cons_of_mem _ hd)) (by rw [List.length_append]; omega)
    have w : law_labels_bytes_w1 [x, some (.ol (A.map bI)), some (.d (.str p.1)), some (.d (.str p.2))] = .ok (.nx [x, some (.ol ((A ++ encL1 p).map bI)), none, none]) := by
      have a1 : A.length + (encT p.1).length ≤ sizeLine := by omega
      have a2 : A.length + (encT p.1).length + (encT p.2).length ≤ sizeLine := by omega
      unfold law_labels_bytes_w1
      unfold encL1
      generalize encT p.1 = T1 at *
      generalize encT p.2 = T2 at *
      simp [h1, h2, addS, a1, a2]
    rw [List.map_cons]
    unfold forF
    have k : tupG 2 (gsC (setD 2) (gsC (setD 3) gsN)) (encP p) [x, some (.ol (A.map bI)), none, none] = .ok [x, some (.ol (A.map bI)), some (.d (.str p.1)), some (.d (.str p.2))] := rfl
    rw [k]
    simp only [ok_bind]
    rw [w]
    simp only [ok_bind]
    rw [ih, List.flatMap_cons, List.append_assoc]
theorem lab_bytes_ok (l : Lab) (h : LabC l) (hl : l.length ≤ 100) : law_labels_bytes_f [encB l] = .ok (.ol ((encL l).map bI)) := by
  have hp := groups_ok l.length (by have := pow20; omega)
  have g := grp_small (n := l.length) (by have := pow20; omega)
  have ll := encLs_len l h
  have e := lab_bytes_loop (some (.d (encB l))) l (grp l.length) h (by omega)
  have hb : ∀ ρ, ρ = [some (.d (encB l)), none, none, none] → law_labels_bytes_b ρ = .ok (.rt (.ol ((encL l).map bI))) := by
    rintro _ rfl
    unfold law_labels_bytes_b
    have ln : lenS [.d (encB l)] = .ok (.d (.int l.length)) := by
      show lenS [.d (.tuple (l.map encP))] = _
      simp
    refine seq_nx (asg_nx (r := .ol ((grp l.length).map bI)) (by simp [ln, hp]) rfl) (seq_nx (ρ1 := [some (.d (encB l)), some (.ol ((encL l).map bI)), none, none]) ?_ rfl)
    rw [forS_ap]
    exact e
  exact runB_rt (hb _ rfl) rfl
/-! ### the law's block bytes -/
abbrev bbE (x0 x1 x2 x3 : Option SV) (A : List Nat) (x5 x6 l b t v : Option SV) : En := [x0, x1, x2, x3, some (.ol (A.map bI)), x5, x6, l, b, t, v]
theorem bb1_loop (x0 x1 x2 x3 x5 x6 : Option SV) : ∀ (pts : List (Int × Int)) (A : List Nat) (l b : Int), PtsOk l pts → (-10000000000000000 < b ∧ b < 10000000000000000) → A.length + (encPts l b pts).length ≤ 10000000 → ∃ l' b', forF (tupG 2 (gsC (setD 9) (gsC (setD 10) gsN))) law_block_bytes_w1 (pts.map ptD) (bbE x0 x1 x2 x3 A x5 x6 (some (.d (.int l))) (some (.d (.int b))) none none) = .ok (.nx (bbE x0 x1 x2 x3 (A ++ encPts l b pts) x5 x6 (some (.d (.int l'))) (some (.d (.int b'))) none none))
  | [], A, l, b, _, _, _ => ⟨l, b, by
    show _ = R.ok (Fl.nx (bbE x0 x1 x2 x3 (A ++ []) x5 x6 (some (.d (.int l))) (some (.d (.int b))) none none))
    rw [List.append_nil]; rfl⟩
  | p :: r, A, l, b, h, hb, hl => by
    have hz := line16
    obtain ⟨h1, h2, h3, h4, h5⟩ := h
    have e : encPts l b (p :: r) = grp (p.1 - l).toNat ++ grp (zig (p.2 - b)) ++ encPts (p.1 + 1) p.2 r := rfl
    rw [e, List.length_append, List.length_append] at hl
    have p1 := groups_ok (p.1 - l).toNat (by have := pow20'; omega)
    rw [Int.toNat_of_nonneg (show 0 ≤ p.1 - l by omega)] at p1
    have p2 := law_integer_ok (p.2 - b) (by omega)
    obtain ⟨l', b', ih⟩ := bb1_loop x0 x1 x2 x3 x5 x6 r (A ++ (grp (p.1 - l).toNat ++ grp (zig (p.2 - b)))) (p.1 + 1) p.2 h5 h4 (by rw [List.length_append, List.length_append]; omega)
    refine ⟨l', b', ?_⟩
    have w : law_block_bytes_w1 (bbE x0 x1 x2 x3 A x5 x6 (some (.d (.int l))) (some (.d (.int b))) (some (.d (.int p.1))) (some (.d (.int p.2)))) = .ok (.nx (bbE x0 x1 x2 x3 (A ++ (grp (p.1 - l).toNat ++ grp (zig (p.2 - b)))) x5 x6 (some (.d (.int (p.1 + 1)))) (some (.d (.int p.2))) none none)) := by
      have a1 : A.length + (grp (p.1 - l).toNat).length ≤ sizeLine := by omega
      have a2 : A.length + (grp (p.1 - l).toNat).length + (grp (zig (p.2 - b))).length ≤ sizeLine := by omega
      have a2' : A.length + ((grp (p.1 - l).toNat).length + (grp (zig (p.2 - b))).length) ≤ sizeLine := by omega
      unfold law_block_bytes_w1
      generalize grp (p.1 - l).toNat = G1 at *
      generalize grp (zig (p.2 - b)) = G2 at *
      simp [p1, p2, addS, a1, a2, a2']
    rw [List.map_cons]
    unfold forF
    have k : tupG 2 (gsC (setD 9) (gsC (setD 10) gsN)) (ptD p) (bbE x0 x1 x2 x3 A x5 x6 (some (.d (.int l))) (some (.d (.int b))) none none) = .ok (bbE x0 x1 x2 x3 A x5 x6 (some (.d (.int l))) (some (.d (.int b))) (some (.d (.int p.1))) (some (.d (.int p.2)))) := rfl
    rw [k]
    simp only [ok_bind]
    rw [w]
    simp only [ok_bind]
    rw [ih, e, List.append_assoc]
theorem bb2_loop (s : Int) (x1 x2 x3 : Option SV) : ∀ (W : List Row) (A : List Nat), (∀ r ∈ W, RowOk s r) → A.length + W.length * 15000 ≤ 9000000 → forF (tupG 2 (gsC (setD 5) (gsC (setD 6) gsN))) law_block_bytes_w2 (W.map rowE) (bbE (some (.d (.int s))) x1 x2 x3 A none none none none none none) = .ok (.nx (bbE (some (.d (.int s))) x1 x2 x3 (A ++ W.flatMap (encRow s)) none none none none none none))
  | [], A, _, _ => by rw [List.flatMap_nil, List.append_nil]; rfl
  | r :: W, A, h, hl => by
    have hz := line16
    rw [List.length_cons, Nat.add_mul] at hl
    have hr := h r List.mem_cons_self
    have hrl := encRow_len hr
    have p1 := lab_bytes_ok r.1 hr.lc (by have := hr.ll; omega)
    have p2 := groups_ok r.2.length (by have := pow20; have := hr.pl; omega)
    have e : (encRow s r).length = (encL r.1).length + (grp r.2.length).length + (encPts s 0 r.2).length := by unfold encRow; rw [List.length_append, List.length_append]
    obtain ⟨l', b', p3⟩ := bb1_loop (some (.d (.int s))) x1 x2 x3 (some (.d (encB r.1))) (some (.d (.list (r.2.map ptD)))) r.2 (A ++ (encL r.1 ++ grp r.2.length)) s 0 hr.pt (by omega) (by rw [List.length_append, List.length_append]; omega)
    have ih := bb2_loop s x1 x2 x3 W (A ++ encRow s r) (fun q hq => h q (List.mem_cons_of_mem _ hq)) (by rw [List.length_append]; omega)
    have er : A ++ (encL r.1 ++ grp r.2.length) ++ encPts s 0 r.2 = A ++ encRow s r := by unfold encRow; simp
    rw [er] at p3
    have w : law_block_bytes_w2 (bbE (some (.d (.int s))) x1 x2 x3 A (some (.d (encB r.1))) (some (.d (.list (r.2.map ptD)))) none none none none) = .ok (.nx (bbE (some (.d (.int s))) x1 x2 x3 (A ++ encRow s r) none none none none none none)) := by
      have lp : (r.2.map ptD).length = r.2.length := List.length_map ..
      unfold law_block_bytes_w2
      refine kill_nx (ρ1 := bbE (some (.d (.int s))) x1 x2 x3 (A ++ encRow s r) (some (.d (encB r.1))) (some (.d (.list (r.2.map ptD)))) (some (.d (.int l'))) (some (.d (.int b'))) none none) ?_ rfl
      refine seq_nx (ρ1 := bbE (some (.d (.int s))) x1 x2 x3 (A ++ (encL r.1 ++ grp r.2.length)) (some (.d (encB r.1))) (some (.d (.list (r.2.map ptD)))) none none none none) ?_ ?_
      · have a1 : A.length + (encL r.1).length ≤ sizeLine := by omega
        have a2 : A.length + ((encL r.1).length + (grp r.2.length).length) ≤ sizeLine := by omega
        have a2' : A.length + (encL r.1).length + (grp r.2.length).length ≤ sizeLine := by omega
        rw [← lp] at p2 a2 a2' ⊢
        clear p3 er ih
        generalize r.2.map ptD = PP at *
        generalize encL r.1 = G1 at *
        generalize grp PP.length = G2 at *
        generalize encB r.1 = B at *
        simp [p1, p2, addS, a1, a2, a2']
      · refine seq_nx (asg_nx (r := .d (.int s)) rfl rfl) (seq_nx (asg_nx (r := .d (.int 0)) rfl rfl) (forS_lst (xs := r.2.map ptD) rfl p3))
    rw [List.map_cons]
    unfold forF
    have k : tupG 2 (gsC (setD 5) (gsC (setD 6) gsN)) (rowE r) (bbE (some (.d (.int s))) x1 x2 x3 A none none none none none none) = .ok (bbE (some (.d (.int s))) x1 x2 x3 A (some (.d (encB r.1))) (some (.d (.list (r.2.map ptD)))) none none none none) := rfl
    rw [k]
    simp only [ok_bind]
    rw [w]
    simp only [ok_bind]
    rw [ih, List.flatMap_cons, List.append_assoc]
theorem block_bytes_ok (s w : Int) (V : List Smp) (hV : V.length ≤ 1000) (hs : 0 ≤ s ∧ s ≤ 1000000000000) (hw : 0 ≤ w ∧ w ≤ 1000000000000) (hl : (V.foldl addR []).length ≤ 100) (h : ∀ r ∈ V.foldl addR [], RowOk s r) : law_block_bytes_f [.int s, .int w, .list (V.map encS)] = .ok (.ol ((encBlk s w (V.foldl addR [])).map bI)) := by
  have hz := line16
  have q20 := pow20
  have q20' := pow20'
  have so := law_series_ok V hV
  generalize V.foldl addR [] = W at *
  have p1 := groups_ok s.toNat (by omega)
  have p2 := groups_ok w.toNat (by omega)
  have p3 := groups_ok W.length (by omega)
  rw [Int.toNat_of_nonneg hs.1] at p1
  rw [Int.toNat_of_nonneg hw.1] at p2
  have g1 := grp_small (n := s.toNat) (by omega)
  have g2 := grp_small (n := w.toNat) (by omega)
  have g3 := grp_small (n := W.length) (by omega)
  have e := bb2_loop s (some (.d (.int w))) (some (.d (.list (V.map encS)))) (some (.d (.list (W.map rowE)))) W (grp s.toNat ++ grp w.toNat ++ grp W.length) h (by rw [List.length_append, List.length_append]; omega)
  have hb : ∀ ρ, ρ = [some (.d (.int s)), some (.d (.int w)), some (.d (.list (V.map encS))), none, none, none, none, none, none, none, none] → law_block_bytes_b ρ = .ok (.rt (.ol ((encBlk s w W).map bI))) := by
    rintro _ rfl
    unfold law_block_bytes_b
    refine seq_nx (asg_nx (r := .ol (W.map rowE)) (by simp [so]) rfl) ?_
    refine seq_nx (ρ1 := bbE (some (.d (.int s))) (some (.d (.int w))) (some (.d (.list (V.map encS)))) (some (.ol (W.map rowE))) (grp s.toNat ++ grp w.toNat ++ grp W.length) none none none none none none) ?_ ?_
    · have a1 : (grp s.toNat).length + (grp w.toNat).length ≤ sizeLine := by omega
      have a2 : (grp s.toNat).length + ((grp w.toNat).length + (grp W.length).length) ≤ sizeLine := by omega
      have a2' : (grp s.toNat).length + (grp w.toNat).length + (grp W.length).length ≤ sizeLine := by omega
      have lp : (W.map rowE).length = W.length := List.length_map ..
      rw [← lp] at p3 a2 a2' ⊢
      clear e so
      generalize V.map encS = VV at *
      generalize W.map rowE = WW at *
      generalize grp s.toNat = G1 at *
      generalize grp w.toNat = G2 at *
      generalize grp WW.length = G3 at *
      simp [p1, p2, p3, addS, a1, a2, a2']
    · refine seq_nx (ρ1 := bbE (some (.d (.int s))) (some (.d (.int w))) (some (.d (.list (V.map encS)))) (some (.d (.list (W.map rowE)))) (encBlk s w W) none none none none none none) ?_ rfl
      rw [frzS_ap]
      exact forS_lst (xs := W.map rowE) rfl e
  exact runB_rt (hb _ rfl) rfl
/-! ### is_block -/
theorem geG_lab (a b : Lab) : geG (.d (encB a)) (.d (encB b)) = .ok (.d (.bool (!PySem.W.dataLt (encB a) (encB b)))) := by
  have ok : ltOk (encB a) (encB b) = true := by
    unfold ltOk
    have d := depth_lab a
    have n : isN (encB a) = false := rfl
    rw [alike_lab, n, decide_eq_true (show (encB a).depth ≤ 60 by omega)]; rfl
  show (if ltOk (encB a) (encB b) = true then _ else _) = _
  rw [if_pos ok]
def PIn (s w : Int) (p : Int × Int) : Prop := (s ≤ p.1 ∧ p.1 < s + w) ∧ (0 ≤ p.1 ∧ p.1 ≤ 10000) ∧ -1000000000000000 < p.2 ∧ p.2 < 1000000000000000
theorem isb1_loop (x0 x3 x4 x6 : Option SV) (s w : Int) (l : Lab) (hl : LabP l) : ∀ pts : List (Int × Int), (∀ p ∈ pts, PIn s w p) → forF (tupG 2 (gsC (setD 7) (gsC (setD 8) gsN))) is_block_w1 (pts.map ptD) [x0, some (.d (.int s)), some (.d (.int w)), x3, x4, some (.d (encB l)), x6, none, none] = .ok (.nx [x0, some (.d (.int s)), some (.d (.int w)), x3, x4, some (.d (encB l)), x6, none, none])
  | [], _ => rfl
  | p :: r, h => by
    obtain ⟨⟨a1, a2⟩, a3, a4⟩ := h p List.mem_cons_self
    have ih := isb1_loop x0 x3 x4 x6 s w l hl r fun q hq => h q (List.mem_cons_of_mem _ hq)
    have pl : is_plain_f [.tuple [encB l, .int p.1, .int p.2]] = .ok (.d (.bool true)) := is_plain_ok ((l, p.1), p.2) hl a3 a4
    have st : is_block_w1 [x0, some (.d (.int s)), some (.d (.int w)), x3, x4, some (.d (encB l)), x6, some (.d (.int p.1)), some (.d (.int p.2))] = .ok (.nx [x0, some (.d (.int s)), some (.d (.int w)), x3, x4, some (.d (encB l)), x6, none, none]) := by
      unfold is_block_w1
      generalize encB l = L at *
      simp [a1, a2, pl]
    rw [List.map_cons]
    unfold forF
    have k : tupG 2 (gsC (setD 7) (gsC (setD 8) gsN)) (ptD p) [x0, some (.d (.int s)), some (.d (.int w)), x3, x4, some (.d (encB l)), x6, none, none] = .ok [x0, some (.d (.int s)), some (.d (.int w)), x3, x4, some (.d (encB l)), x6, some (.d (.int p.1)), some (.d (.int p.2))] := rfl
    rw [k]
    simp only [ok_bind]
    rw [st]
    simp only [ok_bind]
    exact ih
structure BlkOk (s w : Int) (W : List Row) : Prop where
  ne : W ≠ []
  w1 : 1 ≤ w
  lb : ∀ r ∈ W, LabP r.1
  pn : ∀ r ∈ W, r.2 ≠ []
  lt : (W.map (·.1)).Pairwise fun a b => PySem.W.dataLt (encB a) (encB b) = true
  pt : ∀ r ∈ W, ∀ p ∈ r.2, PIn s w p
theorem isb2_ok (x0 : Option SV) (s w : Int) (W : List Row) (h : BlkOk s w W) (i : Nat) (r : Row) (hr : W[i]? = some r) : is_block_w2 [x0, some (.d (.int s)), some (.d (.int w)), some (.d (.list (W.map rowE))), some (.d (.int i)), some (.d (encB r.1)), some (.d (.list (r.2.map ptD))), none, none] = .ok (.nx [x0, some (.d (.int s)), some (.d (.int w)), some (.d (.list (W.map rowE))), none, none, none, none, none]) := by
  have hm := List.mem_of_getElem? hr
  have lp := isb1_loop x0 (some (.d (.list (W.map rowE)))) (some (.d (.int i))) (some (.d (.list (r.2.map ptD)))) s w r.1 (h.lb r hm) r.2 (h.pt r hm)
  unfold is_block_w2
  refine kill_nx (ρ1 := [x0, some (.d (.int s)), some (.d (.int w)), some (.d (.list (W.map rowE))), some (.d (.int i)), some (.d (encB r.1)), some (.d (.list (r.2.map ptD))), none, none]) ?_ rfl
  refine seq_nx (ρ1 := [x0, some (.d (.int s)), some (.d (.int w)), some (.d (.list (W.map rowE))), some (.d (.int i)), some (.d (encB r.1)), some (.d (.list (r.2.map ptD))), none, none]) ?_ (forS_lst (xs := r.2.map ptD) rfl lp)
  have e0 : (r.2.map ptD).isEmpty = false := by
    have := h.pn r hm
    cases q : r.2 with
    | nil => exact absurd q this
    | cons a b => rfl
  clear lp
  by_cases c : i = 0
  · subst c
    generalize r.2.map ptD = PP at *
    generalize W.map rowE = WW at *
    generalize encB r.1 = L at *
    simp [e0]
  · obtain ⟨j, rfl⟩ : ∃ j, i = j + 1 := ⟨i - 1, by omega⟩
    have hj : j + 1 < W.length := (List.getElem?_eq_some_iff.mp hr).1
    have hq : W[j]? = some (W[j]'(by omega)) := List.getElem?_eq_getElem (by omega)
    generalize W[j]'(by omega) = q at hq
    have lt := List.pairwise_iff_getElem.mp h.lt j (j + 1) (by rw [List.length_map]; omega) (by rw [List.length_map]; omega) (by omega)
    rw [List.getElem_map, List.getElem_map] at lt
    have e1 : W[j]'(by omega) = q := by rw [List.getElem?_eq_getElem (show j < W.length by omega)] at hq; injection hq
    have e2 : W[j + 1]'(by omega) = r := by rw [List.getElem?_eq_getElem hj] at hr; injection hr
    rw [e1, e2] at lt
    have g := geG_lab q.1 r.1
    rw [lt] at g
    have at' : atI (W.map rowE) (((j + 1 : Nat) : Int) - 1) = some (rowE q) := by
      rw [show (((j + 1 : Nat) : Int) - 1) = ((j : Nat) : Int) by omega, atI_cast, List.getElem?_map, hq]; rfl
    have i0 : ixS (.d (rowE q)) (.d (.int 0)) = .ok (.d (encB q.1)) := rfl
    have pos : (0 : Int) < ((j + 1 : Nat) : Int) := by omega
    generalize ((j + 1 : Nat) : Int) = J at *
    generalize r.2.map ptD = PP at *
    generalize W.map rowE = WW at *
    generalize rowE q = RQ at *
    generalize encB r.1 = L at *
    generalize encB q.1 = M at *
    simp [e0, pos, at', i0, g]
theorem is_block_ok (s w : Int) (W : List Row) (h : BlkOk s w W) : is_block_f [.tuple [.int s, .int w, .list (W.map rowE)]] = .ok (.d (.bool true)) := by
  have lp := forF_enum (k := tupG 2 (gsC (setD 4) (gsC (tupG 2 (gsC (setD 5) (gsC (setD 6) gsN))) gsN))) (b := is_block_w2) (fun _ => [some (.d (.tuple [.int s, .int w, .list (W.map rowE)])), some (.d (.int s)), some (.d (.int w)), some (.d (.list (W.map rowE))), none, none, none, none, none]) (W.map rowE) (by
    intro i e he
    rw [List.getElem?_map] at he
    obtain ⟨r, hr, rfl⟩ := Option.map_eq_some_iff.mp he
    exact ⟨_, rfl, isb2_ok _ s w W h i r hr⟩)
  have hb : ∀ ρ, ρ = [some (.d (.tuple [.int s, .int w, .list (W.map rowE)])), none, none, none, none, none, none, none, none] → is_block_b ρ = .ok (.rt (.d (.bool true))) := by
    rintro _ rfl
    have ne : (W.map rowE).isEmpty = false := by
      cases q : W with
      | nil => exact absurd q h.ne
      | cons a b => rfl
    have w1 : ¬ w < 1 := by have := h.w1; omega
    unfold is_block_b
    refine seq_nx (ρ1 := [some (.d (.tuple [.int s, .int w, .list (W.map rowE)])), some (.d (.int s)), some (.d (.int w)), some (.d (.list (W.map rowE))), none, none, none, none, none]) rfl ?_
    refine seq_nx (ρ1 := [some (.d (.tuple [.int s, .int w, .list (W.map rowE)])), some (.d (.int s)), some (.d (.int w)), some (.d (.list (W.map rowE))), none, none, none, none, none]) ?_ (seq_nx (by rw [forS_ap]; exact lp) rfl)
    clear lp
    generalize W.map rowE = WW at *
    simp [ne, w1]
  exact runB_rt (hb _ rfl) rfl
theorem take_block_ok (s w : Int) (W : List Row) (hs : 0 ≤ s ∧ s ≤ 1000000000000) (hw : 0 ≤ w ∧ w ≤ 1000000000000) (hl : W.length ≤ 100) (h : ∀ r ∈ W, RowOk s r) (hB : BlkOk s w W) : take_block_f [.list ((encBlk s w W).map bI)] = .ok (.d (.tuple [.int s, .int w, .list (W.map rowE)])) := by
  have q20 := pow20'
  have ib := is_block_ok s w W hB
  have e : encBlk s w W = grp s.toNat ++ (grp w.toNat ++ (grp W.length ++ W.flatMap (encRow s))) := by unfold encBlk; simp
  have t1 := take_number_ok (encBlk s w W) 0 s.toNat _ (by omega) e
  have d2 : (encBlk s w W).drop (grp s.toNat).length = grp w.toNat ++ (grp W.length ++ W.flatMap (encRow s)) := by rw [e]; simp
  have t2 := take_number_ok (encBlk s w W) (grp s.toNat).length w.toNat _ (by omega) d2
  have d3 : (encBlk s w W).drop ((grp s.toNat).length + (grp w.toNat).length) = grp W.length ++ W.flatMap (encRow s) := by rw [← List.drop_drop, d2]; simp
  have t3 := take_all_ok (encBlk s w W) ((grp s.toNat).length + (grp w.toNat).length) s W h hl d3 (by rw [e]; simp)
  rw [Int.toNat_of_nonneg hs.1, Nat.zero_add] at t1
  rw [Int.toNat_of_nonneg hw.1] at t2
  generalize (grp s.toNat).length + (grp w.toNat).length = a2 at *
  generalize (grp s.toNat).length = a1 at *
  clear d2 d3 e
  generalize (encBlk s w W).map bI = A at *
  have t1' : take_number_f [.list A, .int 0] = .ok (.d (.tuple [.int s, .int ((a1 : Nat) : Int)])) := t1
  have hb : ∀ ρ, ρ = [some (.d (.list A)), none, none, none] → take_block_b ρ = .ok (.rt (.d (.tuple [.int s, .int w, .list (W.map rowE)]))) := by
    rintro _ rfl
    unfold take_block_b
    generalize W.map rowE = WW at *
    refine seq_nx (asg_nx (r := .d (.tuple [.int s, .int ((a1 : Nat) : Int)])) (by simp [t1']) rfl) ?_
    refine seq_nx (ρ1 := [some (.d (.list A)), some (.d (.tuple [.int s, .int ((a1 : Nat) : Int)])), none, none]) (by simp) ?_
    refine seq_nx (asg_nx (r := .d (.tuple [.int w, .int ((a2 : Nat) : Int)])) (by simp [t2]) rfl) ?_
    refine seq_nx (ρ1 := [some (.d (.list A)), some (.d (.tuple [.int s, .int ((a1 : Nat) : Int)])), some (.d (.tuple [.int w, .int ((a2 : Nat) : Int)])), none]) (by simp) ?_
    refine seq_nx (asg_nx (r := .ol WW) (by simp [t3]) rfl) ?_
    refine seq_nx (ρ1 := [some (.d (.list A)), some (.d (.tuple [.int s, .int ((a1 : Nat) : Int)])), some (.d (.tuple [.int w, .int ((a2 : Nat) : Int)])), some (.d (.list WW))]) (by simp [ib]) ?_
    simp
  exact runB_rt (hb _ rfl) rfl
/-! ### the samples of a span -/
def inSp (s w : Int) (p : Smp) : Bool := decide (s ≤ p.1.2) && decide (p.1.2 < s + w)
theorem block_of_ok (s w : Int) (V : List Smp) (hV : V.length ≤ 1000) : block_of_f [.int s, .int w, .list (V.map encS)] = .ok (.d (if V.filter (inSp s w) = [] then .none else .tuple [.int s, .int w, .list (((V.filter (inSp s w)).foldl addR []).map rowE)])) := by
  have hz := line16
  have L := lcE_mapα (vs := [4]) encS (inSp s w) encS (fi := seqD (getV 2)) (k := setD 4) (t := asT (chain leS ltS (peek 0) (bin ixS (peek 4) (kon (.int 1))) (bin addS (peek 0) (peek 1)))) (e := getV 4) (ρ := [some (.d (.int s)), some (.d (.int w)), some (.d (.list (V.map encS))), none, none]) V rfl (by omega) (fun p hp => by
    refine ⟨_, rfl, ?_, fun _ => ⟨_, rfl, rfl⟩⟩
    have i1 : ixS (.d (encS p)) (.d (.int 1)) = .ok (.d (.int p.1.2)) := rfl
    unfold inSp
    generalize encS p = P at *
    generalize V.map encS = VV at *
    by_cases c1 : s ≤ p.1.2 <;> by_cases c2 : p.1.2 < s + w <;> simp [i1, c1, c2])
  have hl : (V.filter (inSp s w)).length ≤ 1000 := Nat.le_trans (List.length_filter_le ..) hV
  have so := series_of_ok (V.filter (inSp s w)) hl
  generalize V.filter (inSp s w) = U at *
  have hb : ∀ ρ, ρ = [some (.d (.int s)), some (.d (.int w)), some (.d (.list (V.map encS))), none, none] → block_of_b ρ = .ok (.rt (.d (if U = [] then .none else .tuple [.int s, .int w, .list ((U.foldl addR []).map rowE)]))) := by
    rintro _ rfl
    unfold block_of_b
    refine seq_nx (asg_nx L rfl) ?_
    clear L
    by_cases c : U = []
    · subst c
      rw [if_pos rfl]
      refine seq_rt ?_
      simp
    · rw [if_neg c]
      have ne : (U.map encS).isEmpty = false := by
        cases q : U with
        | nil => exact absurd q c
        | cons a b => rfl
      refine seq_nx (ρ1 := [some (.d (.int s)), some (.d (.int w)), some (.d (.list (V.map encS))), some (.ol (U.map encS)), none]) ?_ ?_
      · generalize U.map encS = UU at *
        generalize V.map encS = VV at *
        simp [ne]
      · generalize (U.foldl addR []).map rowE = WW at *
        generalize U.map encS = UU at *
        generalize V.map encS = VV at *
        simp [so]
  exact runB_rt (hb _ rfl) rfl
/-! ### the drawn block -/
theorem sub_len {α : Type} : ∀ (l m : List α), l.Nodup → (∀ x ∈ l, x ∈ m) → l.length ≤ m.length
  | [], _, _, _ => Nat.zero_le _
  | a :: l, m, nd, h => by
    obtain ⟨m1, m2, rfl⟩ := List.append_of_mem (h a List.mem_cons_self)
    have nd' := List.nodup_cons.mp nd
    have ih := sub_len l (m1 ++ m2) nd'.2 fun x hx => by
      have := h x (List.mem_cons_of_mem _ hx)
      rcases List.mem_append.mp this with z | z
      · exact List.mem_append_left _ z
      · rcases List.mem_cons.mp z with rfl | z
        · exact absurd hx nd'.1
        · exact List.mem_append_right _ z
    rw [List.length_append] at ih
    rw [List.length_append, List.length_cons, List.length_cons]; omega
structure SOk (s w : Int) (p : Smp) : Prop where
  lb : LabP p.1.1
  lc : LabC p.1.1
  pin : PIn s w (p.1.2, p.2)
theorem lab_good {nms ws : List Str} {l : Lab} (hn : nms.length ≤ 5) (gn : ∀ w ∈ nms, (1 ≤ w.length ∧ w.length ≤ 20) ∧ WC w ∧ HD w) (gw : ∀ w ∈ ws, (1 ≤ w.length ∧ w.length ≤ 20) ∧ WC w) (ha : Asc l) (hm : ∀ p ∈ l, p.1 ∈ nms ∧ p.2 ∈ ws) : LabP l ∧ LabC l := by
  have ln : (l.map (·.1)).length ≤ nms.length := sub_len _ _ ha.nodup fun x hx => by
    obtain ⟨p, hp, rfl⟩ := List.mem_map.mp hx
    exact (hm p hp).1
  rw [List.length_map] at ln
  refine ⟨⟨ha, fun p hp => ?_, by omega⟩, fun p hp => ?_⟩
  · obtain ⟨a, b, c⟩ := gn _ (hm p hp).1
    obtain ⟨d, e⟩ := gw _ (hm p hp).2
    exact ⟨rowN_of a b c, rowV_of d e, a.2, d.2⟩
  · obtain ⟨a, b, c⟩ := gn _ (hm p hp).1
    obtain ⟨d, e⟩ := gw _ (hm p hp).2
    exact ⟨⟨b, by omega⟩, e, by omega⟩
theorem number_ok (a b : Int) (ha : 0 ≤ a ∧ a < 1000) (hb : 0 ≤ b ∧ b < 1000) : ∃ n : Int, law_number_f [.int a, .int b] = .ok (.d (.int n)) ∧ -1000 ≤ n ∧ n ≤ 999999999999999 := by
  unfold law_number_f runB law_number_b startE
  by_cases c1 : b % 3 = 0
  · exact ⟨a % 7, by simp [c1], by omega, by omega⟩
  · by_cases c2 : b % 3 = 1
    · exact ⟨0 - a % 7 - b / 3 % 200, by simp [c1, c2], by omega, by omega⟩
    · by_cases c3 : b % 30 = 29
      · exact ⟨999999999999999 - a % 7, by simp [c1, c2, c3], by omega, by omega⟩
      · exact ⟨a * 1000 + b, by simp [c1, c2, c3], by omega, by omega⟩
theorem putF_mem {T : List Smp} {k : Ky} {v : Int} {p : Smp} (h : p ∈ Pl.putF T k v) : p ∈ T ∨ p = (k, v) := by
  unfold Pl.putF at h
  split at h
  · obtain ⟨q, hq, rfl⟩ := List.mem_map.mp h
    by_cases c : q.1 = k
    · rw [if_pos c, c]; exact .inr rfl
    · rw [if_neg c]; exact .inl hq
  · rcases List.mem_append.mp h with z | z
    · exact .inl z
    · exact .inr (List.mem_singleton.mp z)
abbrev lbE (x0 : Option SV) (nms ws : List Str) (x3 : Option SV) (s w : Int) (T : List Smp) (x7 x8 x9 x10 : Option SV) : En := [x0, some (.d (.list (nms.map PyData.str))), some (.d (.list (ws.map PyData.str))), x3, some (.d (.int s)), some (.d (.int w)), some (.kd (tblN nkKy PyData.int T)), x7, x8, x9, x10, none]
theorem lb1_ok (x0 x3 : Option SV) (nms ws : List Str) (s w : Int) (T : List Smp) (c : Int) (hn0 : 0 < nms.length) (hw0 : 0 < ws.length) (hn : nms.length ≤ 5) (gn : ∀ w ∈ nms, (1 ≤ w.length ∧ w.length ≤ 20) ∧ WC w ∧ HD w) (gw : ∀ w ∈ ws, (1 ≤ w.length ∧ w.length ≤ 20) ∧ WC w) (hs : 0 ≤ s ∧ s < 300) (hw : 1 ≤ w) (hT : T.length ≤ 1000) :
    ∃ p : Smp, SOk s w p ∧ law_block_w1 (lbE x0 nms ws x3 s w T (some (.d (.int c))) none none none) = .ok (.nx (lbE x0 nms ws x3 s w (Pl.putF T p.1 p.2) none none none none)) := by
  have hz := line16
  obtain ⟨ds, d1, d2, d3⟩ := draws_ok c 9 (by omega) (by omega)
  rw [draws_eq.symm] at d1
  have hd : ds.length = 9 := by simpa using d2
  obtain ⟨x4, _, h4⟩ := atI_ints ds 4 (by omega) (by omega)
  obtain ⟨x5, m5, h5⟩ := atI_ints ds 5 (by omega) (by omega)
  obtain ⟨x6, m6, h6⟩ := atI_ints ds 6 (by omega) (by omega)
  obtain ⟨x7, m7, h7⟩ := atI_ints ds 7 (by omega) (by omega)
  obtain ⟨x8, m8, h8⟩ := atI_ints ds 8 (by omega) (by omega)
  obtain ⟨l, l1, l2, l3, l4⟩ := labels_ok' (Pl.cutD ds none (some (2 * (x4 % 4)))) nms ws (by have := cutD_len ds none (some (2 * (x4 % 4))); omega) hn0 hw0
  obtain ⟨g1, g2⟩ := lab_good hn gn gw l3 l4
  obtain ⟨n, n1, n2, n3⟩ := number_ok x7 x8 (d3 _ m7) (d3 _ m8)
  have hm : 0 < imin w (10001 - s) := by unfold imin; split <;> omega
  have b1 := Int.emod_nonneg (x5 * 1000 + x6) (show imin w (10001 - s) ≠ 0 by omega)
  have b2 := Int.emod_lt_of_pos (x5 * 1000 + x6) hm
  have b3 : imin w (10001 - s) ≤ w ∧ imin w (10001 - s) ≤ 10001 - s := by unfold imin; split <;> omega
  generalize ht : (x5 * 1000 + x6) % imin w (10001 - s) = t at *
  have pin : PIn s w (s + t, n) := ⟨⟨by dsimp only; omega, by dsimp only; omega⟩, ⟨by dsimp only; omega, by dsimp only; omega⟩, by dsimp only; omega, by dsimp only; omega⟩
  refine ⟨((l, s + t), n), ⟨g1, g2, pin⟩, ?_⟩
  have pd := putD_tbl nkKy_inj PyData.int T (l, s + t) n
  have kk := kdKey_ky l (s + t)
  have hlT : (tblN nkKy PyData.int T).length < sizeLine := by unfold tblN; rw [List.length_map]; omega
  have l1' : law_labels_f [.list (Pl.cutD (ds.map PyData.int) none (some (2 * (x4 % 4)))), .list (nms.map PyData.str), .list (ws.map PyData.str)] = .ok (.d (encB l)) := by rw [cutD_map]; exact l1
  clear l1
  unfold law_block_w1
  generalize ds.map PyData.int = DD at *
  generalize encB l = L at *
  simp [d1, h4, h5, h6, h7, h8, l1', n1, hm, ht, kk, hlT, pd]
theorem law_block_ok (ns : List Int) (nms ws : List Str) (hl : ns.length ≤ 63) (hn0 : 0 < nms.length) (hw0 : 0 < ws.length) (hn : nms.length ≤ 5) (gn : ∀ w ∈ nms, (1 ≤ w.length ∧ w.length ≤ 20) ∧ WC w ∧ HD w) (gw : ∀ w ∈ ws, (1 ≤ w.length ∧ w.length ≤ 20) ∧ WC w) :
    ∃ (s w : Int) (T : List Smp), law_block_f [.list (ns.map PyData.int), .list (nms.map PyData.str), .list (ws.map PyData.str)] = .ok (.d (.tuple [.int s, .int w, .list ((vw T).map encS)])) ∧ (0 ≤ s ∧ s < 300) ∧ (1 ≤ w ∧ w ≤ 10000000000) ∧ (T.map (·.1)).Nodup ∧ T.length ≤ 63 ∧ ∀ p ∈ T, SOk s w p := by
  have hz := line16
  obtain ⟨c, c1⟩ := cell_ok ns 2 (by omega)
  rw [cell_eq.symm] at c1
  obtain ⟨ds, d1, d2, d3⟩ := draws_ok c 6 (by omega) (by omega)
  rw [draws_eq.symm] at d1
  have hd : ds.length = 6 := by simpa using d2
  obtain ⟨x0, m0, h0⟩ := atI_ints ds 0 (by omega) (by omega)
  obtain ⟨x1, m1, h1⟩ := atI_ints ds 1 (by omega) (by omega)
  obtain ⟨x2, m2, h2⟩ := atI_ints ds 2 (by omega) (by omega)
  obtain ⟨x3, m3, h3⟩ := atI_ints ds 3 (by omega) (by omega)
  have r0 := d3 _ m0
  have r1 := d3 _ m1
  have r3 := d3 _ m3
  obtain ⟨s, hs⟩ : ∃ s : Int, s = x0 % 300 := ⟨_, rfl⟩
  obtain ⟨w, hw⟩ : ∃ w : Int, w = if x2 % 4 = 0 then 1 + x1 * 1000000 + x3 else 1 + x1 % 300 := ⟨_, rfl⟩
  have gs : 0 ≤ s ∧ s < 300 := by omega
  have gw1 : 1 ≤ w ∧ w ≤ 10000000000 := by split at hw <;> omega
  have hcl := cutD_len ns (some 3) none
  obtain ⟨ρ', e1, T, e2, e3, e4, e5⟩ := forF_inv (k := setD 7) (b := law_block_w1) (fun i ρ => ∃ T : List Smp, ρ = lbE (some (.d (.list (ns.map PyData.int)))) nms ws (some (.ol (ds.map PyData.int))) s w T none none none none ∧ T.length ≤ i ∧ (T.map (·.1)).Nodup ∧ ∀ p ∈ T, SOk s w p) ((Pl.cutD ns (some 3) none).map PyData.int) _ ⟨[], rfl, Nat.le_refl _, List.nodup_nil, fun _ h => nomatch h⟩ (by
    rintro i x _ hx ⟨T, rfl, a1, a2, a3⟩
    have hi : i < (Pl.cutD ns (some 3) none).length := by
      have := (List.getElem?_eq_some_iff.mp hx).1
      simpa using this
    obtain ⟨c, _, _, rfl⟩ := list_mem PyData.int hx
    obtain ⟨p, p1, p2⟩ := lb1_ok (some (.d (.list (ns.map PyData.int)))) (some (.ol (ds.map PyData.int))) nms ws s w T c hn0 hw0 hn gn gw gs gw1.1 (by omega)
    refine ⟨_, _, rfl, .inl p2, _, rfl, ?_, putF_nodup a2, fun q hq => ?_⟩
    · have := putF_len T p.1 p.2; omega
    · rcases putF_mem hq with z | z
      · exact a3 q z
      · rw [z]; exact p1)
  subst e2
  rw [List.length_map] at e3
  refine ⟨s, w, T, ?_, gs, gw1, e4, by omega, e5⟩
  have hT : T.length ≤ 63 := by omega
  have lc := lcF_mapα encKy (k := setD 11) (t := yesT) (e := dispT (conA (bin ixS (peek 11) (kon (.int 0))) (conA (bin ixS (peek 11) (kon (.int 1))) (conA (kget (peek 6) (getV 11)) nilA)))) (ρ0 := lbE (some (.d (.list (ns.map PyData.int)))) nms ws (some (.ol (ds.map PyData.int))) s w T none none none none) (fun _ => true) (fun k => encS (k, (lkp T k).getD 0)) (sortKy (T.map (·.1))) fun k hk => by
    have hk' : k ∈ T.map (·.1) := (sortKy_perm _).mem_iff.mp hk
    obtain ⟨v, hv⟩ : ∃ v, lkp T k = some v := by
      obtain ⟨q, hq, rfl⟩ := List.mem_map.mp hk'
      exact ⟨_, lkp_at e4 hq⟩
    obtain ⟨l, t⟩ := k
    have kq := kgS_ky T l t v hv (r := .kd (tblN nkKy PyData.int T)) (.inl rfl)
    have i0 : ixS (.d (encKy (l, t))) (.d (.int 0)) = .ok (.d (encB l)) := rfl
    have i1 : ixS (.d (encKy (l, t))) (.d (.int 1)) = .ok (.d (.int t)) := rfl
    have kq' : kgS (.kd (tblN nkKy PyData.int T)) (.d (encKy (l, t))) = .ok (.d (.int v)) := kq
    refine ⟨_, rfl, rfl, fun _ => ⟨.d (encS ((l, t), (lkp T (l, t)).getD 0)), ?_, rfl⟩⟩
    rw [hv]
    show _ = R.ok (SV.d (.tuple [encB l, .int t, .int v]))
    generalize encKy (l, t) = X at *
    generalize encB l = Z at *
    generalize ds.map PyData.int = DD
    generalize ns.map PyData.int = NS
    generalize nms.map PyData.str = NN
    generalize ws.map PyData.str = WW
    simp [i0, i1, kq']
  rw [List.filter_eq_self.mpr fun _ _ => rfl] at lc
  have sk := sortKS_ky T (by omega)
  have hsl : (sortKy (T.map (·.1))).length = T.length := by rw [(sortKy_perm _).length_eq, List.length_map]
  have em : (sortKy (T.map (·.1))).map (fun k => encS (k, (lkp T k).getD 0)) = (vw T).map encS := by unfold vw; rw [List.map_map]; rfl
  rw [em] at lc
  have e6 : lcE (seqD (callB sortKS (conB (peek 6) nilB))) (setD 11) yesT (dispT (conA (bin ixS (peek 11) (kon (.int 0))) (conA (bin ixS (peek 11) (kon (.int 1))) (conA (kget (peek 6) (getV 11)) nilA)))) [11] (lbE (some (.d (.list (ns.map PyData.int)))) nms ws (some (.ol (ds.map PyData.int))) s w T none none none none) = .ok (.ol ((vw T).map encS)) := by
    rw [lcE_ap]
    have e0 : seqD (callB sortKS (conB (peek 6) nilB)) (lbE (some (.d (.list (ns.map PyData.int)))) nms ws (some (.ol (ds.map PyData.int))) s w T none none none none) = .ok ((sortKy (T.map (·.1))).map encKy) := by
      rw [seqD_ap, callB_ap, conB_ap]
      show (sortKS [.kd (tblN nkKy PyData.int T)] >>= _) = _
      rw [sk]; rfl
    rw [e0, ok_bind, if_pos (by rw [List.length_map, hsl]; omega)]
    show (lcF _ _ _ (lbE (some (.d (.list (ns.map PyData.int)))) nms ws (some (.ol (ds.map PyData.int))) s w T none none none none) _ >>= _) = _
    rw [lc, ok_bind]
  have hb : ∀ ρ, ρ = [some (.d (.list (ns.map PyData.int))), some (.d (.list (nms.map PyData.str))), some (.d (.list (ws.map PyData.str))), none, none, none, none, none, none, none, none, none] → law_block_b ρ = .ok (.rt (.d (.tuple [.int s, .int w, .list ((vw T).map encS)]))) := by
    rintro _ rfl
    unfold law_block_b
    refine seq_nx (asg_nx (r := .ol (ds.map PyData.int)) (by
      generalize ds.map PyData.int = DD at *
      generalize ns.map PyData.int = NS at *
      simp [c1, d1]) rfl) ?_
    refine seq_nx (asg_nx (r := .d (.int s)) (by
      rw [hs]
      generalize ds.map PyData.int = DD at *
      simp [h0]) rfl) ?_
    refine seq_nx (asg_nx (r := .d (.int (1 + x1 % 300))) (by
      generalize ds.map PyData.int = DD at *
      simp [h1]) rfl) ?_
    refine seq_nx (ρ1 := [some (.d (.list (ns.map PyData.int))), some (.d (.list (nms.map PyData.str))), some (.d (.list (ws.map PyData.str))), some (.ol (ds.map PyData.int)), some (.d (.int s)), some (.d (.int w)), none, none, none, none, none, none]) ?_ ?_
    · rw [hw]
      clear e1 lc e6
      generalize ds.map PyData.int = DD at *
      by_cases c : x2 % 4 = 0 <;> simp [h1, h2, h3, c]
    refine seq_nx (ρ1 := lbE (some (.d (.list (ns.map PyData.int)))) nms ws (some (.ol (ds.map PyData.int))) s w [] none none none none) (asg_nx (r := .kd []) rfl rfl) ?_
    refine seq_nx (forS_ol (xs := (Pl.cutD ns (some 3) none).map PyData.int) (by simp [cutD_map]) e1) ?_
    rw [frzS_ap]
    show retS _ (lbE (some (.d (.list (ns.map PyData.int)))) nms ws (some (.ol (ds.map PyData.int))) s w T none none none none) = _
    rw [retS_ap, dispT_ap, conA_ap, conA_ap, conA_ap, e6]
    rfl
  exact runB_rt (hb _ rfl) rfl
/-! ### the rows of the drawn samples -/
theorem ptsOk_of : ∀ (pts : List (Int × Int)) (s w l : Int), 0 ≤ l → (∀ p ∈ pts, l ≤ p.1 ∧ PIn s w p) → pts.Pairwise (fun a b => a.1 < b.1) → PtsOk l pts
  | [], _, _, _, _, _, _ => trivial
  | p :: r, s, w, l, h0, h, hp => by
    obtain ⟨h1, h2, h3, h4⟩ := h p List.mem_cons_self
    have hp' := List.pairwise_cons.mp hp
    exact ⟨h1, h0, by omega, by omega, ptsOk_of r s w (p.1 + 1) (by omega) (fun q hq => ⟨by have := hp'.1 q hq; omega, (h q (List.mem_cons_of_mem _ hq)).2⟩) hp'.2⟩
theorem flat_mem {W : List Row} {r : Row} (hr : r ∈ W) {p : Int × Int} (hp : p ∈ r.2) : ((r.1, p.1), p.2) ∈ flatR W := List.mem_flatMap.mpr ⟨r, hr, List.mem_map.mpr ⟨p, hp, rfl⟩⟩
theorem flat_len {W : List Row} {r : Row} (hr : r ∈ W) : r.2.length ≤ (flatR W).length := by
  obtain ⟨A, B, rfl⟩ := List.append_of_mem hr
  unfold flatR
  rw [List.flatMap_append, List.flatMap_cons, List.length_append, List.length_append, List.length_map]; omega
theorem flat_rows {W : List Row} (h : ∀ r ∈ W, r.2 ≠ []) : W.length ≤ (flatR W).length := by
  induction W with
  | nil => exact Nat.zero_le _
  | cons r W ih =>
    have := ih fun q hq => h q (List.mem_cons_of_mem _ hq)
    have hr := List.length_pos_iff.mpr (h r List.mem_cons_self)
    have e : flatR (r :: W) = (r.2.map fun p => ((r.1, p.1), p.2)) ++ flatR W := by unfold flatR; rw [List.flatMap_cons]
    rw [e, List.length_append, List.length_map, List.length_cons]; omega
theorem time_lt {a b : Smp} (h : leSm a b = true) (ne : a.1 ≠ b.1) (e : a.1.1 = b.1.1) : a.1.2 < b.1.2 := by
  have lt := le_ltK h ne
  unfold ltK encKy at lt
  rw [dlt_cons (alike_lab a.1.1 b.1.1), eqv_lab, decide_eq_true e, if_pos rfl, dlt_cons (x := .int a.1.2) (y := .int b.1.2) (xs := []) (ys := []) rfl, eqv_int] at lt
  by_cases c : a.1.2 = b.1.2
  · exact absurd (Prod.ext e c) ne
  · have b1 : (a.1.2 == b.1.2) = false := beq_eq_false_iff_ne.mpr c
    rw [b1, if_neg (by simp), PySem.W.dataLt_int] at lt
    exact of_decide_eq_true lt
theorem rows_good {s w : Int} {V : List Smp} (hs : 0 ≤ s) (hw : 1 ≤ w) (hV : ViewOk V) (ne : V ≠ []) (hl : V.length ≤ 63) (h : ∀ p ∈ V, SOk s w p) : BlkOk s w (V.foldl addR []) ∧ (∀ r ∈ V.foldl addR [], RowOk s r) ∧ (V.foldl addR []).length ≤ 63 ∧ flatR (V.foldl addR []) = V := by
  have ff : flatR (V.foldl addR []) = V := by rw [flat_fold]; rfl
  have rg : RowsG V (V.foldl addR []) := by
    have := rowsG_fold V [] [] ⟨by simp, by simp, fun _ h => (nomatch h), fun _ h => (nomatch h)⟩ (by simpa using hV.pw)
    simpa using this
  generalize V.foldl addR [] = W at *
  have fl : ∀ r ∈ W, V.filter (fun s => decide (s.1.1 = r.1)) = r.2.map fun p => ((r.1, p.1), p.2) := fun r hr => by rw [← ff]; exact flat_filter W r rg.nd hr
  have mem : ∀ r ∈ W, ∀ p ∈ r.2, SOk s w ((r.1, p.1), p.2) := fun r hr p hp => h _ (ff ▸ flat_mem hr hp)
  have pw : ∀ r ∈ W, r.2.Pairwise fun a b => a.1 < b.1 := fun r hr => by
    have st : V.Pairwise fun a b => leSm a b = true ∧ a.1 ≠ b.1 := hV.pw.and (by
      have := hV.nd
      rw [List.nodup_iff_pairwise_ne, List.pairwise_map] at this
      exact this)
    have q := st.filter (fun s => decide (s.1.1 = r.1))
    rw [fl r hr, List.pairwise_map] at q
    exact q.imp fun {a b} z => time_lt (a := ((r.1, a.1), a.2)) (b := ((r.1, b.1), b.2)) z.1 z.2 rfl
  have one : ∀ r ∈ W, ∃ p, p ∈ r.2 := fun r hr => by
    cases q : r.2 with
    | nil => exact absurd q (rg.ne r hr)
    | cons a b => exact ⟨a, List.mem_cons_self⟩
  have lb : ∀ r ∈ W, LabP r.1 ∧ LabC r.1 := fun r hr => by
    obtain ⟨p, hp⟩ := one r hr
    have := mem r hr p hp
    exact ⟨this.lb, this.lc⟩
  have hlen := flat_rows (W := W) rg.ne
  rw [ff] at hlen
  refine ⟨⟨?_, hw, fun r hr => (lb r hr).1, rg.ne, ?_, fun r hr p hp => (mem r hr p hp).pin⟩, fun r hr => ⟨(lb r hr).2, (lb r hr).1.len, ?_, ?_⟩, by omega, ff⟩
  · rintro rfl
    exact ne ff.symm
  · refine ((rg.pw).and (List.nodup_iff_pairwise_ne.mp rg.nd)).imp fun {a b} z => ?_
    have e1 : (!PySem.W.dataLt (encB b) (encB a)) = true := z.1
    have e2 : PySem.W.dataLt (encB b) (encB a) = false := by simpa using e1
    exact dlt_tri (alike_lab b a) (by rw [eqv_lab]; exact decide_eq_false fun q => z.2 q.symm) e2
  · exact ptsOk_of r.2 s w s hs (fun p hp => ⟨(mem r hr p hp).pin.1.1, (mem r hr p hp).pin⟩) (pw r hr)
  · have := flat_len hr
    rw [ff] at this; omega
theorem samples_of_ok (s w : Int) (W : List Row) (hl : (flatR W).length ≤ 1000) : samples_of_f [.tuple [.int s, .int w, .list (W.map rowE)]] = .ok (.ol ((flatR W).map encS)) := by
  have sp := spread_ok W hl
  have hb : ∀ ρ, ρ = [some (.d (.tuple [.int s, .int w, .list (W.map rowE)]))] → samples_of_b ρ = .ok (.rt (.ol ((flatR W).map encS))) := by
    rintro _ rfl
    unfold samples_of_b
    generalize W.map rowE = WW at *
    simp [sp]
  exact runB_rt (hb _ rfl) rfl
/-- sorted with what lies outside, the samples of the span are those of the view -/
theorem inside_ok {s w : Int} {V O : List Smp} (hV : ViewOk V) (h : ∀ p ∈ V, inSp s w p = true) (hO : ∀ p ∈ O, inSp s w p = false) : (sortSm (V ++ O)).filter (inSp s w) = V := by
  have eO : O.filter (inSp s w) = [] := List.filter_eq_nil_iff.mpr fun p hp => by rw [hO p hp]; simp
  have pm : ((sortSm (V ++ O)).filter (inSp s w)).Perm V := by
    have := (sortSm_perm (V ++ O)).filter (inSp s w)
    rwa [List.filter_append, List.filter_eq_self.mpr h, eO, List.append_nil] at this
  exact view_ext ⟨(sortSm_pw (V ++ O)).filter _, (pm.map _).nodup_iff.mpr hV.nd⟩ hV pm
/-! ### the law -/
def outA (s w : Int) : List Smp := if s + w ≤ 10000 then [(([], s + w), 5)] else []
def outB (s : Int) : List Smp := if 0 < s then [(([("zz", "1")], s - 1), 6)] else []
theorem shp_smL (V : List Smp) : shpD (.list (V.map encS)) = true := shp_list encS 3 (by omega) plain_s depth_s V
theorem plain_pt (p : Int × Int) : PyData.plain (ptD p) = true := rfl
theorem plain_all {α : Type} (g : α → D) (h : ∀ a, PyData.plain (g a) = true) : ∀ us : List α, PyData.plainAll (us.map g) = true
  | [] => rfl
  | a :: us => by
    show (PyData.plain (g a) && PyData.plainAll (us.map g)) = true
    rw [h, plain_all g h us]; rfl
theorem depth_all {α : Type} (g : α → D) (n : Nat) (h : ∀ a, PyData.depth (g a) ≤ n) : ∀ us : List α, PyData.depthAll (us.map g) ≤ n
  | [] => Nat.zero_le _
  | a :: us => by
    show max (PyData.depth (g a)) (PyData.depthAll (us.map g)) ≤ n
    have := h a
    have := depth_all g n h us
    omega
theorem plain_rowE (r : Row) : PyData.plain (rowE r) = true := by
  show (PyData.plain (encB r.1) && (PyData.plainAll (r.2.map ptD) && true)) = true
  rw [plain_lab, plain_all ptD plain_pt]; rfl
theorem depth_rowE (r : Row) : PyData.depth (rowE r) ≤ 4 := by
  show max (PyData.depth (encB r.1)) (max (PyData.depthAll (r.2.map ptD) + 1) 0) + 1 ≤ 4
  have := depth_lab r.1
  have := depth_all ptD 1 (fun _ => Nat.le_refl _) r.2
  omega
theorem shp_blk (s w : Int) (W : List Row) : shpD (.tuple [.int s, .int w, .list (W.map rowE)]) = true := by
  refine shp_of ?_ ?_
  · show (true && (true && (PyData.plainAll (W.map rowE) && true))) = true
    rw [plain_all rowE plain_rowE]; rfl
  · show max 0 (max 0 (max (PyData.depthAll (W.map rowE) + 1) 0)) + 1 ≤ 60
    have := depth_all rowE 4 depth_rowE W
    omega
theorem law_true (ns : List Int) (hn : ns.length ≤ 63) : law_f [.list (ns.map PyData.int)] = .ok (.d (.bool true)) := by
  have hz := line16
  obtain ⟨c0, e0⟩ := cell_ok ns 0 (by omega)
  obtain ⟨c1, e1⟩ := cell_ok ns 1 (by omega)
  rw [cell_eq.symm] at e0 e1
  obtain ⟨nms, f0, f1, f2⟩ := names_ok c0 3 (by omega) (by omega)
  obtain ⟨ws, g0, g1, g2⟩ := worths_ok c1 3 (by omega) (by omega)
  have hn3 : nms.length = 3 := by simpa using f1
  have hw3 : ws.length = 3 := by simpa using g1
  obtain ⟨s, w, T, b0, b1, b2, b3, b4, b5⟩ := law_block_ok ns nms ws hn (by omega) (by omega) (by omega) f2 g2
  have hV := vw_ok b3
  have hVl : (vw T).length ≤ 63 := by rw [(vw_perm b3).length_eq]; exact b4
  have hVs : ∀ p ∈ vw T, SOk s w p := fun p hp => b5 p ((vw_perm b3).mem_iff.mp hp)
  clear b3 b4 b5
  generalize vw T = V at *
  have hVi : ∀ p ∈ V, inSp s w p = true := fun p hp => by
    have := (hVs p hp).pin.1
    unfold inSp
    rw [decide_eq_true this.1, decide_eq_true this.2]; rfl
  have hOa : (outA s w).length ≤ 1 ∧ ∀ p ∈ outA s w, inSp s w p = false := by
    unfold outA
    split
    · refine ⟨Nat.le_refl _, fun p hp => ?_⟩
      rw [List.mem_singleton.mp hp]
      unfold inSp
      simp
    · exact ⟨Nat.zero_le _, fun _ h => nomatch h⟩
  have hOb : (outB s).length ≤ 1 ∧ ∀ p ∈ outB s, inSp s w p = false := by
    unfold outB
    split
    · refine ⟨Nat.le_refl _, fun p hp => ?_⟩
      rw [List.mem_singleton.mp hp]
      unfold inSp
      simp; omega
    · exact ⟨Nat.zero_le _, fun _ h => nomatch h⟩
  have hO : ∀ p ∈ outA s w ++ outB s, inSp s w p = false := fun p hp => (List.mem_append.mp hp).elim (hOa.2 p) (hOb.2 p)
  have ins := inside_ok hV hVi hO
  have sl : (sortSm (V ++ (outA s w ++ outB s))).length ≤ 100 := by
    rw [(sortSm_perm _).length_eq, List.length_append, List.length_append]; omega
  have so := sortSm_ok (V ++ (outA s w ++ outB s)) (by rw [List.length_append, List.length_append]; omega) (s := .ol ((V ++ (outA s w ++ outB s)).map encS)) (.inl rfl)
  have bo := block_of_ok s w (sortSm (V ++ (outA s w ++ outB s))) (by omega)
  rw [ins] at bo
  have lO : ((outA s w ++ outB s).map encS).length ≤ 2 := by rw [List.length_map, List.length_append]; omega
  have lA : ((outA s w).map encS).length ≤ 1 := by rw [List.length_map]; omega
  have lB : ((outB s).map encS).length ≤ 1 := by rw [List.length_map]; omega
  have lV : (V.map encS).length ≤ 63 := by rw [List.length_map]; omega
  rw [List.map_append] at so
  rw [List.map_append] at lO so
  have oa : (if s + w ≤ 10000 then (R.ok (SV.ol [.tuple [.tuple [], .int (s + w), .int 5]])) else .ok (.ol [])) = .ok (.ol ((outA s w).map encS)) := by
    unfold outA
    split <;> rfl
  have ob : (if 0 < s then (R.ok (SV.ol [.tuple [.tuple [.tuple [.str "zz", .str "1"]], .int (s - 1), .int 6]])) else .ok (.ol [])) = .ok (.ol ((outB s).map encS)) := by
    unfold outB
    split <;> rfl
  have hb : ∀ ρ, ρ = [some (.d (.list (ns.map PyData.int))), none, none, none, none, none, none, none, none, none] → law_b ρ = .ok (.rt (.d (.bool true))) := by
    rintro _ rfl
    unfold law_b
    refine seq_nx (asg_nx (r := .ol (nms.map PyData.str)) (by
      generalize ns.map PyData.int = NS at *
      simp [e0, f0]) rfl) ?_
    refine seq_nx (asg_nx (r := .ol (ws.map PyData.str)) (by
      generalize ns.map PyData.int = NS at *
      simp [e1, g0]) rfl) ?_
    refine seq_nx (ρ1 := [some (.d (.list (ns.map PyData.int))), some (.d (.list (nms.map PyData.str))), some (.d (.list (ws.map PyData.str))), some (.d (.int s)), some (.d (.int w)), some (.d (.list (V.map encS))), none, none, none, none]) ?_ ?_
    · generalize ns.map PyData.int = NS at *
      generalize nms.map PyData.str = NN at *
      generalize ws.map PyData.str = WW at *
      generalize V.map encS = VV at *
      simp [b0]
    generalize (some (SV.d (.list (ns.map PyData.int))) : Option SV) = z0
    generalize (some (SV.d (.list (nms.map PyData.str))) : Option SV) = z1
    generalize (some (SV.d (.list (ws.map PyData.str))) : Option SV) = z2
    refine seq_nx (asg_nx (r := .ol ((outA s w).map encS)) (by
      rw [← oa]
      generalize V.map encS = VV at *
      by_cases c : s + w ≤ 10000 <;> simp [c]) rfl) ?_
    refine seq_nx (asg_nx (r := .ol ((outA s w).map encS ++ (outB s).map encS)) (by
      have q : iff' (asT (bin gtS (peek 3) (kon (.int 0)))) (dispL (conA (dispT (conA (dispT (conA (dispT (conA (kon (.str "zz")) (conA (kon (.str "1")) nilA))) nilA)) (conA (bin subS (peek 3) (kon (.int 1))) (conA (kon (.int 6)) nilA)))) nilA)) (dispL nilA) [z0, z1, z2, some (.d (.int s)), some (.d (.int w)), some (.d (.list (V.map encS))), some (.ol ((outA s w).map encS)), none, none, none] = .ok (.ol ((outB s).map encS)) := by
        rw [← ob]
        by_cases c : 0 < s <;> simp [c]
      show bin addS (peek 6) _ [z0, z1, z2, some (.d (.int s)), some (.d (.int w)), some (.d (.list (V.map encS))), some (.ol ((outA s w).map encS)), none, none, none] = _
      rw [bin_ap, q]
      exact addS_oo _ _ (by omega)) rfl) ?_
    refine seq_nx (asg_nx (r := .ol ((sortSm (V ++ (outA s w ++ outB s))).map encS)) (by
      have q := addS_do (V.map encS) ((outA s w).map encS ++ (outB s).map encS) (by omega)
      show callB sortedS (conB (bin addS (peek 5) (peek 6)) nilB) [z0, z1, z2, some (.d (.int s)), some (.d (.int w)), some (.d (.list (V.map encS))), some (.ol ((outA s w).map encS ++ (outB s).map encS)), none, none, none] = _
      rw [callB_ap, conB_ap, bin_ap]
      show ((addS (.d (.list (V.map encS))) (.ol ((outA s w).map encS ++ (outB s).map encS)) >>= fun a => _) >>= _) = _
      rw [q]
      exact so) rfl) ?_
    generalize (some (SV.ol ((outA s w).map encS ++ (outB s).map encS)) : Option SV) = z6
    refine seq_nx (asg_nx (r := .d (if V = [] then .none else .tuple [.int s, .int w, .list ((V.foldl addR []).map rowE)])) (by
      show callF 3 block_of_f _ [z0, z1, z2, some (.d (.int s)), some (.d (.int w)), some (.d (.list (V.map encS))), z6, some (.ol ((sortSm (V ++ (outA s w ++ outB s))).map encS)), none, none] = _
      clear so
      generalize (sortSm (V ++ (outA s w ++ outB s))).map encS = SS at *
      generalize V.map encS = VV at *
      simp [bo]) rfl) ?_
    generalize (some (SV.ol ((sortSm (V ++ (outA s w ++ outB s))).map encS)) : Option SV) = z7
    by_cases c : V = []
    · subst c
      refine seq_rt ?_
      rw [if_pos rfl]
      show ifS _ _ _ [z0, z1, z2, some (.d (.int s)), some (.d (.int w)), some (.d (.list [])), z6, z7, some (.d .none), none] = _
      simp
    rw [if_neg c]
    obtain ⟨B, RO, Wl, ff⟩ := rows_good b1.1 b2.1 hV c hVl hVs
    have lse := law_series_ok V (by omega)
    have bb := block_bytes_ok s w V (by omega) ⟨b1.1, by omega⟩ ⟨by omega, by omega⟩ (by omega) RO
    generalize V.foldl addR [] = W at *
    have pb := put_block_ok s w W ⟨b1.1, by omega⟩ ⟨by omega, by omega⟩ (by omega) RO
    have tb := take_block_ok s w W ⟨b1.1, by omega⟩ ⟨by omega, by omega⟩ (by omega) RO B
    have sf := samples_of_ok s w W (by rw [ff]; omega)
    rw [ff] at sf
    have ne : (V.map encS).isEmpty = false := by
      cases q : V with
      | nil => exact absurd q c
      | cons a b => rfl
    have q1 := eqS_same true (shp_blk s w W)
    have q1' := eqS_same false (shp_blk s w W)
    have q2 := eqS_selfL (a := .ol (V.map encS)) (b := .d (.list (V.map encS))) true rfl rfl (shp_smL V)
    have q3 := eqS_nats false (encBlk s w W) (encBlk s w W)
    rw [decide_eq_true rfl] at q3
    show seqS _ _ [z0, z1, z2, some (.d (.int s)), some (.d (.int w)), some (.d (.list (V.map encS))), z6, z7, some (.d (.tuple [.int s, .int w, .list (W.map rowE)])), none] = _
    clear oa ob so bo b0
    generalize (encBlk s w W).map bI = EE at *
    generalize W.map rowE = WW at *
    generalize V.map encS = VV at *
    refine seq_nx (ρ1 := [z0, z1, z2, some (.d (.int s)), some (.d (.int w)), some (.d (.list VV)), z6, z7, some (.d (.tuple [.int s, .int w, .list WW])), none]) (by simp [ne]) ?_
    refine seq_nx (ρ1 := [z0, z1, z2, some (.d (.int s)), some (.d (.int w)), some (.d (.list VV)), z6, z7, some (.d (.tuple [.int s, .int w, .list WW])), none]) (by simp [lse, q1, sf, q2]) ?_
    refine seq_nx (ρ1 := [z0, z1, z2, some (.d (.int s)), some (.d (.int w)), some (.d (.list VV)), z6, z7, some (.d (.tuple [.int s, .int w, .list WW])), some (.ol EE)]) (by simp [pb]) ?_
    simp [bb, q3, tb, q1']
  exact runB_rt (hb _ rfl) rfl
end K22
open PySem PySem.W PyProof.Rows
set_option maxRecDepth 100000 in
set_option maxHeartbeats 0 in
theorem PySem.Challenge.cw_watchfloor_k22_store_blocks_read_back_holds : PySem.Challenge.rw_watchfloor_k22_store_blocks_read_back.Holds := by
  w_on; o_law; k_head; (case hw => w_witness2)
  k_fill
  refine L2.walk_of (l := PySem.Challenge.rw_watchfloor_k22_store_blocks_read_back) (n := 63) (k := 7) (x := "_law_script") (CX := fun w => L2.CX PySem.Challenge.rw_watchfloor_k22_store_blocks_read_back.prog w) (sp := fun w => Pl.spL _ 1 K22.law_f) rfl (by decide) rfl ⟨rfl, by decide, by decide⟩ (fun w h Y => PySem.W.kIn_of Y) ?F (fun _ H a ns hl _ hS => Pl.law_spL hS (K22.law_true ns hl)) (fun _ _ _ _ _ ⟨_, _, _, _, _, _, _, _, _, _, _, _, z⟩ => z)
  case F =>
    intro w mg fa h KX G hmg
    refine' K22.all_mk KX G hmg ?a_is_value ?l_is_value ?c_is_value ?k_is_value ?a_is_name ?l_is_name ?c_is_name ?k_is_name ?a_put_number ?l_put_number ?c_put_number ?k_put_number ?a_put_integer ?l_put_integer ?c_put_integer ?k_put_integer ?a_put_text ?l_put_text ?c_put_text ?k_put_text ?a_put_labels ?l_put_labels ?c_put_labels ?k_put_labels ?a_take_number ?l_take_number ?c_take_number ?k_take_number ?a_take_integer ?l_take_integer ?c_take_integer ?k_take_integer ?a_char_at ?l_char_at ?c_char_at ?k_char_at ?a_take_text ?l_take_text ?c_take_text ?k_take_text ?a_take_labels ?l_take_labels ?c_take_labels ?k_take_labels ?a_are_plain_labels ?l_are_plain_labels ?c_are_plain_labels ?k_are_plain_labels ?a_is_plain ?l_is_plain ?c_is_plain ?k_is_plain ?a_series_of ?l_series_of ?c_series_of ?k_series_of ?a_spread ?l_spread ?c_spread ?k_spread ?a_put_points ?l_put_points ?c_put_points ?k_put_points ?a_put_block ?l_put_block ?c_put_block ?k_put_block ?a_take_points ?l_take_points ?c_take_points ?k_take_points ?a_take_series ?l_take_series ?c_take_series ?k_take_series ?a_take_all_series ?l_take_all_series ?c_take_all_series ?k_take_all_series ?a_is_block ?l_is_block ?c_is_block ?k_is_block ?a_take_block ?l_take_block ?c_take_block ?k_take_block ?a_block_of ?l_block_of ?c_block_of ?k_block_of ?a_samples_of ?l_samples_of ?c_samples_of ?k_samples_of ?a_law_cell ?l_law_cell ?c_law_cell ?k_law_cell ?a_law_draws ?l_law_draws ?c_law_draws ?k_law_draws ?a_law_name ?l_law_name ?c_law_name ?k_law_name ?a_law_worth ?l_law_worth ?c_law_worth ?k_law_worth ?a_law_names ?l_law_names ?c_law_names ?k_law_names ?a_law_worths ?l_law_worths ?c_law_worths ?k_law_worths ?a_law_labels ?l_law_labels ?c_law_labels ?k_law_labels ?a_law_number ?l_law_number ?c_law_number ?k_law_number ?a_law_block ?l_law_block ?c_law_block ?k_law_block ?a_law_series ?l_law_series ?c_law_series ?k_law_series ?a_law_groups ?l_law_groups ?c_law_groups ?k_law_groups ?a_law_letters ?l_law_letters ?c_law_letters ?k_law_letters ?a_law_labels_bytes ?l_law_labels_bytes ?c_law_labels_bytes ?k_law_labels_bytes ?a_law_integer_bytes ?l_law_integer_bytes ?c_law_integer_bytes ?k_law_integer_bytes ?a_law_block_bytes ?l_law_block_bytes ?c_law_block_bytes ?k_law_block_bytes ?a_law ?l_law ?c_law ?k_law ?v_LAST_TIME ?v_LETTERS ?v_MOST_CHARS ?v_MOST_LABELS ?v_VALUE_BOUND ?v_WORD_CHARS ?xg_NotABlock ?xb_NotABlock ?xt_NotABlock ?xd_NotABlock ?xe_NotABlock ?xk_NotABlock ?z_abs ?z_enumerate ?z_int ?z_isinstance ?z_len ?z_list ?z_min ?z_ord ?z_range ?z_sorted ?z_tuple
    (case a_is_value => k_is); (case l_is_value => k_is); (case c_is_value => k_is); (case k_is_value => k_is); (case a_is_name => k_is); (case l_is_name => k_is); (case c_is_name => k_is); (case k_is_name => k_is); (case a_put_number => k_is); (case l_put_number => k_is); (case c_put_number => k_is); (case k_put_number => k_is); (case a_put_integer => k_is); (case l_put_integer => k_is); (case c_put_integer => k_is); (case k_put_integer => k_is); (case a_put_text => k_is); (case l_put_text => k_is); (case c_put_text => k_is); (case k_put_text => k_is); (case a_put_labels => k_is); (case l_put_labels => k_is); (case c_put_labels => k_is); (case k_put_labels => k_is); (case a_take_number => k_is); (case l_take_number => k_is); (case c_take_number => k_is); (case k_take_number => k_is); (case a_take_integer => k_is); (case l_take_integer => k_is); (case c_take_integer => k_is); (case k_take_integer => k_is); (case a_char_at => k_is); (case l_char_at => k_is); (case c_char_at => k_is); (case k_char_at => k_is); (case a_take_text => k_is); (case l_take_text => k_is); (case c_take_text => k_is); (case k_take_text => k_is); (case a_take_labels => k_is); (case l_take_labels => k_is); (case c_take_labels => k_is); (case k_take_labels => k_is); (case a_are_plain_labels => k_is); (case l_are_plain_labels => k_is); (case c_are_plain_labels => k_is); (case k_are_plain_labels => k_is); (case a_is_plain => k_is); (case l_is_plain => k_is); (case c_is_plain => k_is); (case k_is_plain => k_is); (case a_series_of => k_is); (case l_series_of => k_is); (case c_series_of => k_is); (case k_series_of => k_is); (case a_spread => k_is); (case l_spread => k_is); (case c_spread => k_is); (case k_spread => k_is); (case a_put_points => k_is); (case l_put_points => k_is); (case c_put_points => k_is); (case k_put_points => k_is); (case a_put_block => k_is); (case l_put_block => k_is); (case c_put_block => k_is); (case k_put_block => k_is); (case a_take_points => k_is); (case l_take_points => k_is); (case c_take_points => k_is); (case k_take_points => k_is); (case a_take_series => k_is); (case l_take_series => k_is); (case c_take_series => k_is); (case k_take_series => k_is); (case a_take_all_series => k_is); (case l_take_all_series => k_is); (case c_take_all_series => k_is); (case k_take_all_series => k_is); (case a_is_block => k_is); (case l_is_block => k_is); (case c_is_block => k_is); (case k_is_block => k_is); (case a_take_block => k_is); (case l_take_block => k_is); (case c_take_block => k_is); (case k_take_block => k_is); (case a_block_of => k_is); (case l_block_of => k_is); (case c_block_of => k_is); (case k_block_of => k_is); (case a_samples_of => k_is); (case l_samples_of => k_is); (case c_samples_of => k_is); (case k_samples_of => k_is); (case a_law_cell => k_is); (case l_law_cell => k_is); (case c_law_cell => k_is); (case k_law_cell => k_is); (case a_law_draws => k_is); (case l_law_draws => k_is); (case c_law_draws => k_is); (case k_law_draws => k_is); (case a_law_name => k_is); (case l_law_name => k_is); (case c_law_name => k_is); (case k_law_name => k_is); (case a_law_worth => k_is); (case l_law_worth => k_is); (case c_law_worth => k_is); (case k_law_worth => k_is); (case a_law_names => k_is); (case l_law_names => k_is); (case c_law_names => k_is); (case k_law_names => k_is); (case a_law_worths => k_is); (case l_law_worths => k_is); (case c_law_worths => k_is); (case k_law_worths => k_is); (case a_law_labels => k_is); (case l_law_labels => k_is); (case c_law_labels => k_is); (case k_law_labels => k_is); (case a_law_number => k_is); (case l_law_number => k_is); (case c_law_number => k_is); (case k_law_number => k_is); (case a_law_block => k_is); (case l_law_block => k_is); (case c_law_block => k_is); (case k_law_block => k_is); (case a_law_series => k_is); (case l_law_series => k_is); (case c_law_series => k_is); (case k_law_series => k_is); (case a_law_groups => k_is); (case l_law_groups => k_is); (case c_law_groups => k_is); (case k_law_groups => k_is); (case a_law_letters => k_is); (case l_law_letters => k_is); (case c_law_letters => k_is); (case k_law_letters => k_is); (case a_law_labels_bytes => k_is); (case l_law_labels_bytes => k_is); (case c_law_labels_bytes => k_is); (case k_law_labels_bytes => k_is); (case a_law_integer_bytes => k_is); (case l_law_integer_bytes => k_is); (case c_law_integer_bytes => k_is); (case k_law_integer_bytes => k_is); (case a_law_block_bytes => k_is); (case l_law_block_bytes => k_is); (case c_law_block_bytes => k_is); (case k_law_block_bytes => k_is); (case a_law => k_is); (case l_law => k_is); (case c_law => k_is); (case k_law => k_is); (case v_LAST_TIME => k_is); (case v_LETTERS => k_is); (case v_MOST_CHARS => k_is); (case v_MOST_LABELS => k_is); (case v_VALUE_BOUND => k_is); (case v_WORD_CHARS => k_is); (case xg_NotABlock => k_is); (case xb_NotABlock => k_is); (case xt_NotABlock => k_is); (case xd_NotABlock => k_is); (case xe_NotABlock => k_exc); (case xk_NotABlock => k_is); (case z_abs => k_is); (case z_enumerate => k_is); (case z_int => k_is); (case z_isinstance => k_is); (case z_len => k_is); (case z_list => k_is); (case z_min => k_is); (case z_ord => k_is); (case z_range => k_is); (case z_sorted => k_is); (case z_tuple => k_is)
